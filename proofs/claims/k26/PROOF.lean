import PyProof.Rows.All
import Wide.All
import OpenK.AllK
import Wide.FinOn
import HandS.ForMost
import HandS.ForExc
import HandS.Conv
import HandS.TupAny
import HandS.Walk
import HandS.Gcd
import HandS.IsInst
import HandS.Rev
import HandS.RevRange
import HandS.Zip
import HandS.Wide
import HandS.TupMul
import HandS.Style
import HandS.Dict
import PyProof.ReprRoads
import HandS.Codes
import HandS.Defaults
import HandS.Head0
import HandS.Head1
import HandS.Head2
import HandS.HeadEnd
import HandS.HeadHook1
import HandS.HeadHook2
import HandS.Head3
import KE.GoesEnum
import KE.GoesZip
import HandS.Flow
import KE.KRevSl
import PyProof.Rows.ReprOcc
import PyProof.ReprBulk
import PySem.Challenge.RW_legsteps_k26_whole_adams_moulton_backwar
set_option Elab.async false
set_option linter.all false
set_option maxRecDepth 100000
/-! LsA: own data, own small language (IR), its evaluator. -/
namespace LS
open PySem L2

inductive D where
  | non
  | bl (b : Bool)
  | int (i : Int)
  | str (x : Str)
  | tup (l : List D)
  | lst (l : List D)
  | dic (ks : List Key) (l : List D)
  | ins (c : Nat) (l : List D)
  | scr (l : List Int)
deriving Inhabited

def keyPy : Key → PyData
  | .inl i => .int i
  | .inr x => .str x

mutual
def D.py : D → PyData
  | .non => .none
  | .bl b => .bool b
  | .int i => .int i
  | .str x => .str x
  | .tup l => .tuple (D.pyL l)
  | .lst l => .list (D.pyL l)
  | .dic ks l => .dict ((ks.map keyPy).zip (D.pyL l))
  | .ins _ _ => .none
  | .scr _ => .none
def D.pyL : List D → List PyData
  | [] => []
  | d :: r => D.py d :: D.pyL r
end
mutual
/-- data without own instances -/
def D.pure : D → Bool
  | .tup l => D.pureL l
  | .lst l => D.pureL l
  | .dic ks l => decide (ks.length = l.length) && D.pureL l
  | .ins _ _ => false
  | .scr _ => false
  | _ => true
def D.pureL : List D → Bool
  | [] => true
  | d :: r => D.pure d && D.pureL r
end
mutual
/-- no list, dict or instance in it -/
def D.flat : D → Bool
  | .tup l => D.flatL l
  | .lst _ => false
  | .dic _ _ => false
  | .ins _ _ => false
  | .scr _ => false
  | _ => true
def D.flatL : List D → Bool
  | [] => true
  | d :: r => D.flat d && D.flatL r
end

/-! ### the language -/
inductive Kind | val | loc | io
deriving DecidableEq
inductive Op | add | sub | mul | fdiv | mod | pow
deriving DecidableEq
inductive Cop | eq | ne | lt | le | gt | ge
deriving DecidableEq
inductive Bi | len | abs | int | max2 | min2 | tuple | list | sum | all | any | repr | gcd | str
deriving DecidableEq
/-- targets -/
inductive T where
  | n (i : Nat)
  | t (l : List T)

mutual
inductive E where
  | v (i : Nat)
  | int (i : Int) | bl (b : Bool) | str (x : Str) | non
  | g (n : Nat)
  | dic0 | dic1 (x : Str) (i : Int)
  | tup (es : EL) | lst (es : EL)
  | op (o : Op) (a b : E)
  | neg (a : E) | not (a : E)
  | and (a b : E) | or (a b : E)
  | cmp (o : Cop) (a b : E)
  | chn (o1 o2 : Cop) (a b c : E)
  | isN (a : E) | isNN (a : E)
  | ife (c a b : E)
  | ix (a i : E)
  | sl (a : E) (lo hi : EO)
  | rev (a : E)
  | call (f : Nat) (as : AL)
  | callT (f g : Nat) (as : AL)
  | callk (f : Nat) (as es : EL) (ks : List Nat)
  | isB (neg b : Bool) (a : E)
  | bi (b : Bi) (es : EL)
  | isi (ty : String) (a : E)
  | lc (elt : E) (tg : T) (it : I) (own : List Nat)
  | lcif (elt : E) (tg : T) (it : I) (c : E) (own : List Nat)
inductive EL where
  | nil
  | cons (e : E) (r : EL)
inductive EO where
  | no
  | so (e : E)
/-- arguments of an own def: a value, an owned list lent, an owned list to be changed -/
inductive AL where
  | nil
  | val (e : E) (r : AL)
  | bor (i : Nat) (r : AL)
  | io (i : Nat) (r : AL)
inductive I where
  | seq (e : E)
  | rng1 (e : E) | rng2 (a b : E) | rng3 (a b c : E) | enz (a b : E)
  | enum (e : E)
  | zip (a b : E)
  | rev (e : E)
  | revr (e : E)
end

mutual
inductive S where
  | asg (t : T) (e : E)
  | own (i : Nat) (e : E)
  | par (is : List (Nat × Bool)) (es : EL)
  | sub (io : Bool) (i : Nat) (ix e : E)
  | subn (i : Nat) (x : Int) (j : Nat) (e : E)
  | app (i : Nat) (e : E)
  | pop (i : Nat)
  | popT (t : T) (i : Nat)
  | ex (e : E)
  | ifs (c : E) (a b : SL)
  | whl (c : E) (b : SL)
  | for_ (t : T) (it : I) (b : SL)
  | ret (e : E)
  | retF (e : E)
  | retO (i : Nat)
  | retN
  | pass
  | rais
inductive SL where
  | nil
  | cons (s : S) (r : SL)
end

/-! ### values -/
abbrev EnD := List (Option D)
def intsD : List D → Option (List Int)
  | [] => some []
  | .int i :: r => (intsD r).map (i :: ·)
  | _ => none
def blsD : List D → Option (List Bool)
  | [] => some []
  | .bl i :: r => (blsD r).map (i :: ·)
  | _ => none

def smallMul (i j : Int) : Bool := decide (i.natAbs.log2 + j.natAbs.log2 < 1000000)
def opF : Op → D → D → Option D
  | .add, .int i, .int j => some (.int (i + j))
  | .add, .str x, .str y => if x.length + y.length ≤ sizeLine then some (.str (x ++ y)) else none
  | .add, .lst x, .lst y => if x.length + y.length ≤ sizeLine then some (.lst (x ++ y)) else none
  | .add, .tup x, .tup y => if x.length + y.length ≤ sizeLine then some (.tup (x ++ y)) else none
  | .sub, .int i, .int j => some (.int (i - j))
  | .mul, .int i, .int j => if smallMul i j then some (.int (i * j)) else none
  | .mul, .lst x, .int j => if x.length * j.toNat ≤ sizeLine ∧ -(2 ^ 63) ≤ j ∧ j < 2 ^ 63 then some (.lst (List.replicate j.toNat x).flatten) else none
  | .mul, .tup x, .int j => if x ≠ [] ∧ x.length ≤ 1000 ∧ -1000 ≤ j ∧ j ≤ 1000 then some (.tup (List.replicate j.toNat x).flatten) else none
  | .fdiv, .int i, .int j => if j ≠ 0 ∧ j.natAbs.log2 < 9000 then some (.int (i.fdiv j)) else none
  | .mod, .int i, .int j => if j ≠ 0 then some (.int (i.fmod j)) else none
  | .pow, .int i, .int j => if 0 ≤ j ∧ j ≤ 1000000 ∧ i.natAbs < 2 ^ 64 then some (.int (i ^ j.toNat)) else none
  | _, _, _ => none

def D.shp (d : D) : Bool := D.pure d && SeqAt.shaped d.py
def eqD (a b : D) : Option Bool := if a.shp && b.shp then some (PyData.eqv a.py b.py) else none
/-- two lists of unlike length -/
def lenX : D → D → Option Bool
  | .lst l, .lst m => if l.length = m.length then none else some false
  | _, _ => none
def eqX (a b : D) : Option Bool := match eqD a b with
  | some c => some c
  | none => lenX a b
def cmpF : Cop → D → D → Option D
  | .eq, a, b => (eqX a b).map .bl
  | .ne, a, b => (eqD a b).map fun c => .bl (!c)
  | .lt, .int i, .int j => some (.bl (decide (i < j)))
  | .le, .int i, .int j => some (.bl (decide (i ≤ j)))
  | .gt, .int i, .int j => some (.bl (decide (j < i)))
  | .ge, .int i, .int j => some (.bl (decide (j ≤ i)))
  | _, _, _ => none

def ixF : D → D → Option D
  | .lst l, .int i => atI l i
  | .tup l, .int i => atI l i
  | .scr l, .int i => (atI l i).map .int
  | _, _ => none
def cutD {α : Type} (xs : List α) (lo hi : Option Int) : List α := (xs.drop (HT.sIx xs.length 0 lo)).take (HT.sIx xs.length xs.length hi - HT.sIx xs.length 0 lo)
def slF : D → Option Int → Option Int → Option D
  | .lst l, lo, hi => some (.lst (cutD l lo hi))
  | .tup l, lo, hi => some (.tup (cutD l lo hi))
  | .scr l, lo, hi => some (.lst ((cutD l lo hi).map .int))
  | _, _, _ => none
def revF : D → Option D
  | .lst l => some (.lst l.reverse)
  | .tup l => some (.tup l.reverse)
  | _ => none

def reprD (d : D) : Option D := if d.pure && !d.py.hasDict && d.py.showable && decide (d.py.shown.length ≤ sizeLine) && decide (d.py.depth ≤ 60) then some (.str d.py.shown) else none
def lenF : List D → Option D
  | [.lst l] => some (.int l.length)
  | [.tup l] => some (.int l.length)
  | [.scr l] => some (.int l.length)
  | _ => none
def absF : List D → Option D
  | [.int i] => some (.int (if i < 0 then -i else i))
  | _ => none
def intF : List D → Option D
  | [.int i] => some (.int i)
  | _ => none
def max2F : List D → Option D
  | [.int i, .int j] => some (.int (if j > i then j else i))
  | _ => none
def min2F : List D → Option D
  | [.int i, .int j] => some (.int (if j < i then j else i))
  | _ => none
def gcdF : List D → Option D
  | [.int i, .int j] => some (.int ((Nat.gcd i.natAbs j.natAbs : Nat) : Int))
  | _ => none
def tupleF : List D → Option D
  | [.lst l] => some (.tup l)
  | [.tup l] => some (.tup l)
  | _ => none
def listF : List D → Option D
  | [.lst l] => some (.lst l)
  | [.tup l] => some (.lst l)
  | _ => none
def sumF : List D → Option D
  | [.lst l] => (intsD l).map fun ns => .int ns.sum
  | _ => none
def allF : List D → Option D
  | [.lst l] => (blsD l).map fun bs => .bl (bs.all id)
  | _ => none
def anyF : List D → Option D
  | [.lst l] => (blsD l).map fun bs => .bl (bs.any id)
  | _ => none
def strF : List D → Option D
  | [.int i] => if i.natAbs.log2 < 1920 then some (.str (toString i)) else none
  | _ => none
def reprF : List D → Option D
  | [d] => reprD d
  | _ => none
def biF : Bi → List D → Option D
  | .len, l => lenF l
  | .abs, l => absF l
  | .int, l => intF l
  | .max2, l => max2F l
  | .min2, l => min2F l
  | .tuple, l => tupleF l
  | .list, l => listF l
  | .sum, l => sumF l
  | .all, l => allF l
  | .any, l => anyF l
  | .repr, l => reprF l
  | .gcd, l => gcdF l
  | .str, l => strF l
def tyOf : D → Option String
  | .non => some "NoneType"
  | .bl _ => some "bool"
  | .int _ => some "int"
  | .str _ => some "str"
  | .tup _ => some "tuple"
  | .lst _ => some "list"
  | .dic _ _ => some "dict"
  | .ins _ _ => none
  | .scr _ => none
def isiF (ty : String) (d : D) : Option D := (tyOf d).bind fun t => (kitB t ty).map .bl

def setE (env : EnD) (i : Nat) (d : D) : EnD := env.set i (some d)
def getE (env : EnD) (i : Nat) : Option D := (env[i]?).join

mutual
def asgT : T → D → EnD → Option EnD
  | .n i, d, env => some (env.set i (some d))
  | .t l, .tup ds, env => if ds.length = T.len l then asgL l ds env else none
  | .t _, _, _ => none
def asgL : List T → List D → EnD → Option EnD
  | [], [], env => some env
  | t :: ts, d :: ds, env => (asgT t d env).bind fun env => asgL ts ds env
  | _, _, _ => none
def T.len : List T → Nat
  | [] => 0
  | _ :: r => T.len r + 1
end
def wipeE (env : EnD) : List Nat → EnD
  | [] => env
  | i :: r => (wipeE env r).set i none
end LS
/-! LsB: the evaluator. -/
namespace LS
open PySem L2

inductive Fl | nx | rt (d : D)

/-- what an own def gives: its value, and what its changed lists hold behind it -/
abbrev CallT := Nat → List D → Option (D × List D)

def rng (lo : Int) (n : Nat) : List D := (List.range n).map fun i => .int (lo + (i : Nat))
def okR (i : Int) : Bool := decide (-(2 ^ 62) ≤ i) && decide (i < 2 ^ 62)
def seqOf : D → Option (List D)
  | .lst l => some l
  | .tup l => some l
  | .scr l => some (l.map .int)
  | _ => none
/-- a list alone -/
def seqL : D → Option (List D)
  | .lst l => some l
  | .scr l => some (l.map .int)
  | _ => none
def enumF (l : List D) (i : Nat) : List D := match l with
  | [] => []
  | d :: r => .tup [.int (i : Nat), d] :: enumF r (i + 1)
/-- i, i - 1, .. -/
def rngD (i : Int) (n : Nat) : List D := (List.range n).map fun t => .int (i + (t : Nat) * (-1))
def zipF : List D → List D → List D
  | x :: xs, y :: ys => .tup [x, y] :: zipF xs ys
  | _, _ => []
/-- small enough for a new list -/
def fits (l : List D) : Option (List D) := if l.length ≤ 1000000 then some l else none

def sclF : D → Option Bool
  | .bl b => some b
  | _ => none
/-- a value's truth -/
def truF : D → Option Bool
  | .non => some false
  | .bl b => some b
  | .int i => some (i != 0)
  | .lst l => some (!l.isEmpty)
  | .tup l => some (!l.isEmpty)
  | _ => none

/-- is it None -/
def isNonD : D → Bool
  | .non => true
  | _ => false
def isIntD : D → Bool
  | .int _ => true
  | _ => false
/-- a list of ints -/
def lstI : D → Option (List D)
  | .lst l => (intsD l).map fun _ => l
  | _ => none
def permK {α : Type} (ds : List α) : List Nat → Option (List α)
  | [] => some []
  | k :: r => (ds[k]?).bind fun d => (permK ds r).map (d :: ·)
/-- v is True, v is not False .. -/
def isBF (neg b : Bool) : D → Option Bool
  | .bl c => some (Bool.xor neg (decide (c = b)))
  | _ => none

/-- one item of a comprehension after the other -/
def lcL (elt : EnD → Option (D × EnD)) (t : T) (own : List Nat) : List D → EnD → Option (List D × EnD)
  | [], env => some ([], env)
  | d :: r, env => (asgT t d (wipeE env own)).bind fun e1 => (elt e1).bind fun p => (lcL elt t own r p.2).map fun q => (p.1 :: q.1, q.2)
def lcifL (elt : EnD → Option (D × EnD)) (c : EnD → Option (Bool × EnD)) (t : T) (own : List Nat) : List D → EnD → Option (List D × EnD)
  | [], env => some ([], env)
  | d :: r, env => (asgT t d (wipeE env own)).bind fun e1 => (c e1).bind fun q =>
      if q.1 then (elt q.2).bind fun p => (lcifL elt c t own r p.2).map fun z => (p.1 :: z.1, z.2) else lcifL elt c t own r q.2
/-- the slots of `own` back to what they were -/
def backE (env old : EnD) : List Nat → EnD
  | [] => env
  | i :: r => (backE env old r).set i ((old[i]?).join)

/-- the lists that are lent or changed, read where the call is made -/
def fillA : AL → List D → EnD → Option (List D)
  | .nil, [], _ => some []
  | .val _ r, d :: ds, env => (fillA r ds env).map (d :: ·)
  | .bor i r, _ :: ds, env => (getE env i).bind fun d => (fillA r ds env).map (d :: ·)
  | .io i r, _ :: ds, env => (getE env i).bind fun d => (fillA r ds env).map (d :: ·)
  | _, _, _ => none
/-- is a list lent -/
def lentA : AL → Bool
  | .nil => false
  | .bor _ _ => true
  | .val _ r => lentA r
  | .io _ r => lentA r
/-- the changed lists behind a call -/
def outA : AL → List D → EnD → Option EnD
  | .nil, [], env => some env
  | .val _ r, os, env => outA r os env
  | .bor _ r, os, env => outA r os env
  | .io i r, o :: os, env => outA r os (env.set i (some o))
  | _, _, _ => none

section
variable (C : CallT) (G : Nat → Option D)
mutual
def ev : E → EnD → Option (D × EnD)
  | .v i, env => (getE env i).map fun d => (d, env)
  | .int i, env => some (.int i, env)
  | .bl b, env => some (.bl b, env)
  | .str x, env => some (.str x, env)
  | .non, env => some (.non, env)
  | .dic0, env => some (.dic [] [], env)
  | .dic1 x i, env => some (.dic [.inr x] [.int i], env)
  | .g n, env => (G n).map fun d => (d, env)
  | .tup es, env => (evL es env).map fun p => (.tup p.1, p.2)
  | .lst es, env => (evL es env).map fun p => (.lst p.1, p.2)
  | .op o a b, env => (ev a env).bind fun p => (ev b p.2).bind fun q => (opF o p.1 q.1).map fun d => (d, q.2)
  | .neg a, env => (ev a env).bind fun p => match p.1 with
    | .int i => some (.int (-i), p.2)
    | _ => none
  | .not a, env => (ev a env).bind fun p => (truF p.1).map fun k => (.bl (!k), p.2)
  | .and a b, env => (ev a env).bind fun p => (sclF p.1).bind fun c => if c then ev b p.2 else some (.bl false, p.2)
  | .or a b, env => (ev a env).bind fun p => (sclF p.1).bind fun c => if c then some (.bl true, p.2) else ev b p.2
  | .cmp o a b, env => (ev a env).bind fun p => (ev b p.2).bind fun q => (cmpF o p.1 q.1).map fun d => (d, q.2)
  | .chn o1 o2 a b c, env => (ev a env).bind fun p => (ev b p.2).bind fun q => (cmpF o1 p.1 q.1).bind fun d => (sclF d).bind fun k =>
      if k then (ev c q.2).bind fun r => (cmpF o2 q.1 r.1).map fun d => (d, r.2) else some (.bl false, q.2)
  | .isN a, env => (ev a env).map fun p => (.bl (isNonD p.1), p.2)
  | .isNN a, env => (ev a env).map fun p => (.bl (!isNonD p.1), p.2)
  | .ife c a b, env => (tst c env).bind fun p => if p.1 then ev a p.2 else ev b p.2
  | .ix a i, env => (ev a env).bind fun p => (ev i p.2).bind fun q => (ixF p.1 q.1).map fun d => (d, q.2)
  | .sl a lo hi, env => (ev a env).bind fun p => (evO lo p.2).bind fun q => (evO hi q.2).bind fun r => (slF p.1 q.1 r.1).map fun d => (d, r.2)
  | .rev a, env => (ev a env).bind fun p => (revF p.1).map fun d => (d, p.2)
  | .call f as, env => (evA as env).bind fun p => (fillA as p.1 p.2).bind fun ds => (C f ds).bind fun r =>
      if lentA as && !D.flat r.1 then none else (outA as r.2 p.2).map fun e => (r.1, e)
  | .callT f g as, env => (evA as env).bind fun p => (fillA as p.1 p.2).bind fun ds => (C g ds).bind fun r => (lstI r.1).bind fun l => (C f [.lst l]).map fun q => (q.1, p.2)
  | .callk f as es ks, env => (evL as env).bind fun p => (evL es p.2).bind fun q => (permK (p.1 ++ q.1) ks).bind fun ds => (C f ds).map fun r => (r.1, q.2)
  | .isB ng b a, env => (ev a env).bind fun p => (isBF ng b p.1).map fun k => (.bl k, p.2)
  | .bi b es, env => (evL es env).bind fun p => (biF b p.1).map fun d => (d, p.2)
  | .isi ty a, env => (ev a env).bind fun p => (isiF ty p.1).map fun d => (d, p.2)
  | .lc elt t it own, env => (evI it env).bind fun p => (fits p.1).bind fun l => (lcL (fun e => ev elt e) t own l p.2).map fun q => (.lst q.1, backE q.2 p.2 own)
  | .lcif elt t it c own, env => (evI it env).bind fun p => (fits p.1).bind fun l => (lcifL (fun e => ev elt e) (fun e => tst c e) t own l p.2).map fun q => (.lst q.1, backE q.2 p.2 own)
/-- as a test -/
def tst : E → EnD → Option (Bool × EnD)
  | .not a, env => (tst a env).map fun p => (!p.1, p.2)
  | .and a b, env => (tst a env).bind fun p => if p.1 then tst b p.2 else some (false, p.2)
  | .or a b, env => (tst a env).bind fun p => if p.1 then some (true, p.2) else tst b p.2
  | .cmp o a b, env => (ev a env).bind fun p => (ev b p.2).bind fun q => (cmpF o p.1 q.1).bind fun d => (sclF d).map fun k => (k, q.2)
  | .chn o1 o2 a b c, env => (ev a env).bind fun p => (ev b p.2).bind fun q => (cmpF o1 p.1 q.1).bind fun d => (sclF d).bind fun k =>
      if k then (ev c q.2).bind fun r => (cmpF o2 q.1 r.1).bind fun d => (sclF d).map fun k => (k, r.2) else some (false, q.2)
  | .isN a, env => (ev a env).map fun p => (isNonD p.1, p.2)
  | .isNN a, env => (ev a env).map fun p => (!isNonD p.1, p.2)
  | .bl b, env => some (b, env)
  | .v i, env => (getE env i).bind fun d => (truF d).map fun k => (k, env)
  | .call f as, env => (evA as env).bind fun p => (fillA as p.1 p.2).bind fun ds => (C f ds).bind fun r =>
      if lentA as && !D.flat r.1 then none else (outA as r.2 p.2).bind fun e => (truF r.1).map fun k => (k, e)
  | .callT f g as, env => (evA as env).bind fun p => (fillA as p.1 p.2).bind fun ds => (C g ds).bind fun r => (lstI r.1).bind fun l => (C f [.lst l]).bind fun q => (truF q.1).map fun k => (k, p.2)
  | .callk f as es ks, env => (evL as env).bind fun p => (evL es p.2).bind fun q => (permK (p.1 ++ q.1) ks).bind fun ds => (C f ds).bind fun r => (truF r.1).map fun k => (k, q.2)
  | .isB ng b a, env => (ev a env).bind fun p => (isBF ng b p.1).map fun k => (k, p.2)
  | .bi b es, env => (evL es env).bind fun p => (biF b p.1).bind fun d => (truF d).map fun k => (k, p.2)
  | .isi ty a, env => (ev a env).bind fun p => (isiF ty p.1).bind fun d => (truF d).map fun k => (k, p.2)
  | .ix a i, env => (ev a env).bind fun p => (ev i p.2).bind fun q => (ixF p.1 q.1).bind fun d => (truF d).map fun k => (k, q.2)
  | _, _ => none
def evL : EL → EnD → Option (List D × EnD)
  | .nil, env => some ([], env)
  | .cons e r, env => (ev e env).bind fun p => (evL r p.2).map fun q => (p.1 :: q.1, q.2)
def evO : EO → EnD → Option (Option Int × EnD)
  | .no, env => some (none, env)
  | .so e, env => (ev e env).bind fun p => match p.1 with
    | .int i => some (some i, p.2)
    | _ => none
/-- the values of the plain arguments, from the left (a lent or changed list: read later) -/
def evA : AL → EnD → Option (List D × EnD)
  | .nil, env => some ([], env)
  | .val e r, env => (ev e env).bind fun p => (evA r p.2).map fun q => (p.1 :: q.1, q.2)
  | .bor i r, env => (getE env i).bind fun _ => (evA r env).map fun q => (.non :: q.1, q.2)
  | .io i r, env => (getE env i).bind fun _ => (evA r env).map fun q => (.non :: q.1, q.2)
def evI : I → EnD → Option (List D × EnD)
  | .seq e, env => (ev e env).bind fun p => (seqOf p.1).map fun l => (l, p.2)
  | .rng1 e, env => (ev e env).bind fun p => match p.1 with
    | .int n => if okR n then some (rng 0 n.toNat, p.2) else none
    | _ => none
  | .rng2 a b, env => (ev a env).bind fun p => (ev b p.2).bind fun q => match p.1, q.1 with
    | .int i, .int j => if okR i && okR j then some (rng i (j - i).toNat, q.2) else none
    | _, _ => none
  | .rng3 a b c, env => (ev a env).bind fun p => (ev b p.2).bind fun q => (ev c q.2).bind fun r => match p.1, q.1, r.1 with
    | .int i, .int j, .int t => if okR i && okR j && decide (t = -1) then some (rngD i (i - j).toNat, r.2) else none
    | _, _, _ => none
  | .enz a b, env => (ev a env).bind fun p => (ev b p.2).bind fun q => match p.1, q.1 with
    | .tup l, .tup m => some (enumF (zipF l m) 0, q.2)
    | _, _ => none
  | .enum e, env => (ev e env).bind fun p => (seqOf p.1).map fun l => (enumF l 0, p.2)
  | .zip a b, env => (ev a env).bind fun p => (ev b p.2).bind fun q => match p.1, q.1 with
    | .lst l, .lst m => some (zipF l m, q.2)
    | .tup l, .tup m => some (zipF l m, q.2)
    | _, _ => none
  | .rev e, env => (ev e env).bind fun p => (seqOf p.1).map fun l => (l.reverse, p.2)
  | .revr e, env => (ev e env).bind fun p => match p.1 with
    | .int n => if okR n then some ((rng 0 n.toNat).reverse, p.2) else none
    | _ => none
end
/-! ### statements -/
def forL (body : EnD → Option (Fl × EnD)) (t : T) : List D → EnD → Option (Fl × EnD)
  | [], env => some (.nx, env)
  | d :: r, env => (asgT t d env).bind fun e1 => (body e1).bind fun p => match p.1 with
    | .nx => forL body t r p.2
    | .rt x => some (.rt x, p.2)
/-- a while, n turns at most -/
def whN (c : EnD → Option (Bool × EnD)) (body : EnD → Option (Fl × EnD)) : Nat → EnD → Option (Fl × EnD)
  | 0, _ => none
  | n + 1, env => (c env).bind fun p => if p.1 then (body p.2).bind fun q => match q.1 with
      | .nx => whN c body n q.2
      | .rt x => some (.rt x, q.2)
    else some (.nx, p.2)
open Classical in
/-- a while, as many turns as it takes -/
noncomputable def whL (c : EnD → Option (Bool × EnD)) (body : EnD → Option (Fl × EnD)) (env : EnD) : Option (Fl × EnD) :=
  if h : ∃ n, (whN c body n env).isSome = true then whN c body (Classical.choose h) env else none
theorem whN_more {c : EnD → Option (Bool × EnD)} {body : EnD → Option (Fl × EnD)} : ∀ {n m : Nat} {env : EnD} {r : Fl × EnD}, n ≤ m → whN c body n env = some r → whN c body m env = some r
  | 0, _, _, _, _, h => by cases h
  | n + 1, 0, _, _, hl, _ => by omega
  | n + 1, m + 1, env, r, hl, h => by
    unfold whN at h ⊢
    cases hc : c env with
    | none => rw [hc] at h; cases h
    | some p =>
      rw [hc] at h
      simp only [Option.bind_some] at h ⊢
      split
      · rename_i hp
        rw [if_pos hp] at h
        cases hb : body p.2 with
        | none => rw [hb] at h; cases h
        | some q =>
          rw [hb] at h
          simp only [Option.bind_some] at h ⊢
          obtain ⟨f, e⟩ := q
          cases f with
          | nx => exact whN_more (n := n) (m := m) (by omega) h
          | rt x => exact h
      · rename_i hp
        rw [if_neg hp] at h
        exact h
theorem whL_of {c : EnD → Option (Bool × EnD)} {body : EnD → Option (Fl × EnD)} {n : Nat} {env : EnD} {r : Fl × EnD} (h : whN c body n env = some r) : whL c body env = some r := by
  have hx : ∃ n, (whN c body n env).isSome = true := ⟨n, by rw [h]; rfl⟩
  unfold whL
  rw [dif_pos hx]
  have hs := Classical.choose_spec hx
  obtain ⟨r', hr'⟩ := Option.isSome_iff_exists.mp hs
  have a := whN_more (Nat.le_max_left n (Classical.choose hx)) h
  have b := whN_more (Nat.le_max_right n (Classical.choose hx)) hr'
  rw [a] at b
  rw [hr', ← b]
theorem whL_some {c : EnD → Option (Bool × EnD)} {body : EnD → Option (Fl × EnD)} {env : EnD} {r : Fl × EnD} (h : whL c body env = some r) : ∃ n, whN c body n env = some r := by
  unfold whL at h
  split at h
  · exact ⟨_, h⟩
  · cases h
theorem whL_eq (c : EnD → Option (Bool × EnD)) (body : EnD → Option (Fl × EnD)) (env : EnD) : whL c body env = (c env).bind fun p => if p.1 then (body p.2).bind fun q => match q.1 with
      | .nx => whL c body q.2
      | .rt x => some (.rt x, q.2)
    else some (.nx, p.2) := by
  apply Option.ext
  intro r
  constructor
  · intro h
    obtain ⟨n, hn⟩ := whL_some h
    cases n with
    | zero => cases hn
    | succ n =>
      unfold whN at hn
      cases hc : c env with
      | none => rw [hc] at hn; cases hn
      | some p =>
        rw [hc] at hn
        simp only [Option.bind_some] at hn ⊢
        split
        · rename_i hp
          rw [if_pos hp] at hn
          cases hb : body p.2 with
          | none => rw [hb] at hn; cases hn
          | some q =>
            rw [hb] at hn
            simp only [Option.bind_some] at hn ⊢
            obtain ⟨f, e⟩ := q
            cases f with
            | nx => exact whL_of hn
            | rt x => exact hn
        · rename_i hp
          rw [if_neg hp] at hn
          exact hn
  · intro h
    cases hc : c env with
    | none => rw [hc] at h; cases h
    | some p =>
      rw [hc] at h
      simp only [Option.bind_some] at h
      by_cases hp : p.1 = true
      · rw [if_pos hp] at h
        cases hb : body p.2 with
        | none => rw [hb] at h; cases h
        | some q =>
          rw [hb] at h
          simp only [Option.bind_some] at h
          obtain ⟨f, e⟩ := q
          cases f with
          | nx =>
            obtain ⟨n, hn⟩ := whL_some h
            refine whL_of (n := n + 1) ?_
            unfold whN
            rw [hc]
            simp only [Option.bind_some, if_pos hp, hb]
            exact hn
          | rt x =>
            refine whL_of (n := 1) ?_
            unfold whN
            rw [hc]
            simp only [Option.bind_some, if_pos hp, hb]
            exact h
      · rw [if_neg hp] at h
        refine whL_of (n := 1) ?_
        unfold whN
        rw [hc]
        simp only [Option.bind_some, if_neg hp]
        exact h

def isLstD : D → Bool
  | .lst _ => true
  | _ => false
def parF : List (Nat × Bool) → List D → EnD → Option EnD
  | [], [], env => some env
  | (i, b) :: is, d :: ds, env => if b && !isLstD d then none else parF is ds (env.set i (some d))
  | _, _, _ => none

mutual
noncomputable def exS : S → EnD → Option (Fl × EnD)
  | .asg t e, env => (ev C G e env).bind fun p => (asgT t p.1 p.2).map fun e => (.nx, e)
  | .own i e, env => (ev C G e env).bind fun p => match p.1 with
    | .lst l => some (.nx, p.2.set i (some (.lst l)))
    | _ => none
  | .par is es, env => (evL C G es env).bind fun p => (parF is p.1 p.2).map fun e => (.nx, e)
  | .sub io i x e, env => (ev C G e env).bind fun p => (getE p.2 i).bind fun _ => (ev C G x p.2).bind fun q => match getE q.2 i, q.1 with
    | some (.lst l), .int k => if io && !isIntD p.1 then none else (ixN l.length k).map fun j => (.nx, q.2.set i (some (.lst (l.set j p.1))))
    | _, _ => none
  | .subn i x j e, env => (ev C G e env).bind fun p => match p.1, getE p.2 i with
    | .tup [.int a, d], some (.lst l) => (ixN l.length x).map fun n => (.nx, (p.2.set i (some (.lst (l.set n (.int a))))).set j (some d))
    | _, _ => none
  | .app i e, env => (getE env i).bind fun _ => (ev C G e env).bind fun p => match getE p.2 i with
    | some (.lst l) => if l.length < 1000000 then some (.nx, p.2.set i (some (.lst (l ++ [p.1])))) else none
    | _ => none
  | .pop i, env => match getE env i with
    | some (.lst l) => if l = [] then none else some (.nx, env.set i (some (.lst l.dropLast)))
    | _ => none
  | .popT t i, env => match getE env i with
    | some (.lst l) => match l.getLast? with
      | some d => (asgT t d (env.set i (some (.lst l.dropLast)))).map fun e => (.nx, e)
      | none => none
    | _ => none
  | .ex e, env => (ev C G e env).map fun p => (.nx, p.2)
  | .ifs c a b, env => (tst C G c env).bind fun p => if p.1 then exL a p.2 else exL b p.2
  | .whl c b, env => whL (fun e => tst C G c e) (fun e => exL b e) env
  | .for_ t it b, env => (evI C G it env).bind fun p => forL (fun e => exL b e) t p.1 p.2
  | .ret e, env => (ev C G e env).map fun p => (.rt p.1, p.2)
  | .retF e, env => (ev C G e env).bind fun p => match p.1 with
    | .lst l => some (.rt (.lst l), p.2)
    | _ => none
  | .retO i, env => (getE env i).map fun d => (.rt d, env)
  | .retN, env => some (.rt .non, env)
  | .pass, env => some (.nx, env)
  | .rais, _ => none
noncomputable def exL : SL → EnD → Option (Fl × EnD)
  | .nil, env => some (.nx, env)
  | .cons s r, env => (exS s env).bind fun p => match p.1 with
    | .nx => exL r p.2
    | .rt d => some (.rt d, p.2)
end
end

/-! ### defs -/
structure Fn where
  name : Str
  ps : List Str
  N : List Str
  kd : List Kind
  fresh : Bool
  body : SL
/-- the parameters' kinds -/
def Fn.pk (F : Fn) : List Kind := F.kd.take F.ps.length
/-- what the changed parameters hold -/
def outsE : List Kind → EnD → Option (List D)
  | [], _ => some []
  | .io :: ks, e :: es => e.bind fun d => (outsE ks es).map (d :: ·)
  | .val :: ks, _ :: es => outsE ks es
  | _, _ => none
structure Prg where
  fn : Nat → Option Fn
  gl : Nat → Option D
/-- what a call hands back: a def that promises a new list gives a list -/
def backF (fresh : Bool) (r : D) (os : List D) : Option (D × List D) := if fresh && !isLstD r then none else some (r, os)
def flD : Fl → D
  | .rt d => d
  | .nx => .non
/-- a def's call, at most k calls one in another -/
noncomputable def run (P : Prg) : Nat → CallT
  | 0, _, _ => none
  | k + 1, f, ds => (P.fn f).bind fun F => if ds.length = F.ps.length then
      (exL (run P k) P.gl F.body (ds.map some ++ List.replicate (F.N.length - ds.length) none)).bind fun p =>
        (outsE F.pk p.2).bind fun os => backF F.fresh (flD p.1) os
    else none
end LS
set_option maxHeartbeats 1000000
/-! LsBz: what the head is asked for, in parts. -/
namespace LS
open PySem PySem.Spec PyProof.Rows L2

/-- values of the module's names, as they stand in the written part -/
def gv (K : PySem.W.Frag) : Nat → D → Value → Bool
  | 0, _, _ => false
  | _ + 1, .non, u => (match u with | .none => true | _ => false)
  | _ + 1, .bl b, u => (match u with | .bool c => decide (b = c) | _ => false)
  | _ + 1, .int i, u => (match u with | .int j _ => decide (i = j) | _ => false)
  | _ + 1, .str x, u => (match u with | .str y _ => decide (x = y) | _ => false)
  | n + 1, .tup l, u => (match u with
    | .ref a => (match K.lookup a with
      | some ⟨.type c, _, .seq its _, _⟩ => decide (c = "tuple") && decide (its.size ≤ sizeLine) && decide (l.length = its.toList.length) && (l.zip its.toList).all fun p => gv K n p.1 p.2
      | _ => false)
    | _ => false)
  | _ + 1, _, _ => false
/-- one fact of the module's names -/
inductive Gf where
  | val (x : Str) (d : D)
  | blt (x : Str) (y : String)
def Gf.ok (K : PySem.W.Frag) : Gf → Bool
  | .val x d => (match PySem.W.nsIn K mainGlobals x with
    | some (some u) => gv K 40 d u
    | _ => false)
  | .blt x y => (match PySem.W.nsIn K mainGlobals x with
    | some (some (.builtin z)) => decide (z = y)
    | _ => false)
/-- the head's hook: the kit's facts and the module's values -/
def gfs (gs : List Gf) (K : PySem.W.Frag) : Bool := gs.all fun f => f.ok K
def obsL (n : Nat) (fa : List He.Fa) (gs : List Gf) (fn : List He.DefD) (g : Addr → Option Obj) : He.AlD × Bool := (He.obsD fa fn (He.frG g (He.asD g n)), gfs gs (He.frG g (He.asD g n)))
def hookL (n : Nat) (fa : List He.Fa) (gs : List Gf) (fn : List He.DefD) : PySem.W.Hook where
  α := He.AlD × Bool
  obs := fun s => obsL n fa gs fn s.heap.get?
  val := fun _ => (He.valD fn, true)
  says := fun _ h => ∃ K : PySem.W.Frag, K.In h ∧ He.SaysD fa fn K ∧ gfs gs K = true
  of := fun _ _ e => ⟨_, He.frG_in, (Prod.mk.inj e).1, (Prod.mk.inj e).2⟩
  keeps := fun _ _ _ ⟨K, hK, c⟩ q => ⟨K, PySem.W.Frag.In.keeps hK q, c⟩
theorem obsL_eq {n : Nat} {fa : List He.Fa} {gs : List Gf} {fn : List He.DefD} {g : Addr → Option Obj} {s : Shared} (h : ∀ a, g a = s.heap.get? a) : obsL n fa gs fn g = (hookL n fa gs fn).obs s := by
  rw [funext h]
  rfl
/-- the module's plain values: number, name, value -/
abbrev GT := List (Nat × Str × D)
def prgOf (tbl : List (Nat × Fn)) (gt : GT) : Prg := ⟨fun f => tbl.lookup f, fun n => (gt.lookup n).map (·.2)⟩
def gnOf (gt : GT) (n : Nat) : Str := match gt.lookup n with
  | some p => p.1
  | none => ""
/-- a def of the top, as the head tells of it -/
def mkD (F : Fn) (st : Stmt) : He.DefD := ⟨(F.name, none), F.name, F.name, defArgs st, defBody st, defScope st, [], []⟩
theorem opt_and {α β γ : Type} {W : Option α} {f : α → β} {g : α → γ} {b : β} {c : γ} (h1 : W.map f = some b) (h2 : W.map g = some c) : W.map (fun x => (f x, g x)) = some (b, c) := by
  cases W with
  | none => cases h1
  | some x =>
    have e1 : f x = b := Option.some.inj h1
    have e2 : g x = c := Option.some.inj h2
    show some (f x, g x) = _
    rw [e1, e2]
theorem trip_of {α β γ δ : Type} {W : Option α} {f : α → β} {g : α → γ} {h : α → δ} {b : β} {c : γ} {d : δ} (h1 : W.map (fun x => (f x, g x)) = some (b, c)) (h2 : W.map h = some d) : W.map (fun x => (f x, g x, h x)) = some (b, c, d) := by
  cases W with
  | none => cases h1
  | some x =>
    have e1 : (f x, g x) = (b, c) := Option.some.inj h1
    have e2 : h x = d := Option.some.inj h2
    show some (f x, g x, h x) = _
    rw [e2, (Prod.mk.inj e1).1, (Prod.mk.inj e1).2]
theorem obs_cat {α : Type} {W : Option α} {t : α → Addr → Option Obj} {n : Nat} {fa1 fa2 : List He.Fa} {gs1 gs2 : List Gf} {fn1 fn2 : List He.DefD} (h1 : W.map (fun x => obsL n fa1 gs1 fn1 (t x)) = some (He.valD fn1, true)) (h2 : W.map (fun x => obsL n fa2 gs2 fn2 (t x)) = some (He.valD fn2, true)) : W.map (fun x => obsL n (fa1 ++ fa2) (gs1 ++ gs2) (fn1 ++ fn2) (t x)) = some (He.valD (fn1 ++ fn2), true) := by
  cases W with
  | none => cases h1
  | some x =>
    have e1 : obsL n fa1 gs1 fn1 (t x) = (He.valD fn1, true) := Option.some.inj h1
    have e2 : obsL n fa2 gs2 fn2 (t x) = (He.valD fn2, true) := Option.some.inj h2
    show some (obsL n (fa1 ++ fa2) (gs1 ++ gs2) (fn1 ++ fn2) (t x)) = _
    congr 1
    unfold obsL He.obsD He.valD gfs at *
    simp only [Prod.mk.injEq] at e1 e2 ⊢
    obtain ⟨⟨a1, a2⟩, a3⟩ := e1
    obtain ⟨⟨b1, b2⟩, b3⟩ := e2
    rw [List.all_append, List.all_append, List.all_append, List.map_append, a2, b2, a3, b3]
    simp only [Bool.and_eq_true] at a1 b1
    rw [a1.1, a1.2, b1.1, b1.2, List.map_append]
    exact ⟨⟨rfl, rfl⟩, rfl⟩
end LS
set_option maxHeartbeats 0
namespace LS
open PySem PySem.Spec PyProof.Rows L2
/-- is_whole -/
def F1 : Fn := ⟨"is_whole", ["value"], ["value"], [.val], false, (.cons (.ret (.and (.isi "int" (.v 0)) (.not (.isi "bool" (.v 0))))) .nil)⟩
/-- are_wholes -/
def F2 : Fn := ⟨"are_wholes", ["value", "many"], ["value", "many", "number"], [.val, .val, .val], false, (.cons (.ret (.and (.isi "tuple" (.v 0)) (.and (.cmp .eq (.bi .len (.cons (.v 0) .nil)) (.v 1)) (.bi .all (.cons (.lc (.call 1 (.val (.v 2) .nil)) (.n 2) (.seq (.v 0)) [2]) .nil))))) .nil)⟩
/-- is_between -/
def F3 : Fn := ⟨"is_between", ["value", "low", "high"], ["value", "low", "high"], [.val, .val, .val], false, (.cons (.ret (.and (.call 1 (.val (.v 0) .nil)) (.chn .le .le (.v 1) (.v 0) (.v 2)))) .nil)⟩
/-- divisor_of -/
def F4 : Fn := ⟨"divisor_of", ["numbers"], ["numbers", "found", "number"], [.val, .val, .val], false, (.cons (.asg (.n 1) (.int 0)) (.cons (.for_ (.n 2) (.seq (.v 0)) (.cons (.asg (.n 1) (.bi .gcd (.cons (.v 1) (.cons (.v 2) .nil)))) .nil)) (.cons (.ret (.v 1)) .nil)))⟩
/-- is_reduced -/
def F5 : Fn := ⟨"is_reduced", ["numbers"], ["numbers"], [.val], false, (.cons (.ret (.cmp .eq (.call 4 (.val (.v 0) .nil)) (.int 1))) .nil)⟩
/-- raised -/
def F8 : Fn := ⟨"raised", ["number", "many"], ["number", "many", "found", "step"], [.val, .val, .val, .val], false, (.cons (.asg (.n 2) (.int 1)) (.cons (.for_ (.n 3) (.rng1 (.v 1)) (.cons (.asg (.n 2) (.op .mul (.v 2) (.v 0))) .nil)) (.cons (.ret (.v 2)) .nil)))⟩
/-- is_ratio -/
def F9 : Fn := ⟨"is_ratio", ["value"], ["value"], [.val], false, (.cons (.ret (.and (.call 2 (.val (.v 0) (.val (.int 2) .nil))) (.and (.cmp .gt (.ix (.v 0) (.int 1)) (.int 0)) (.call 5 (.val (.v 0) .nil))))) .nil)⟩
/-- ratio_with -/
def F10 : Fn := ⟨"ratio_with", ["number", "under"], ["number", "under", "part"], [.val, .val, .val], false, (.cons (.asg (.n 2) (.call 4 (.val (.tup (.cons (.v 0) (.cons (.v 1) .nil))) .nil))) (.cons (.asg (.n 2) (.ife (.cmp .gt (.v 1) (.int 0)) (.v 2) (.neg (.v 2)))) (.cons (.ret (.tup (.cons (.op .fdiv (.v 0) (.v 2)) (.cons (.op .fdiv (.v 1) (.v 2)) .nil)))) .nil)))⟩
/-- ratio_sum -/
def F11 : Fn := ⟨"ratio_sum", ["one", "two"], ["one", "two"], [.val, .val], false, (.cons (.ret (.call 10 (.val (.op .add (.op .mul (.ix (.v 0) (.int 0)) (.ix (.v 1) (.int 1))) (.op .mul (.ix (.v 1) (.int 0)) (.ix (.v 0) (.int 1)))) (.val (.op .mul (.ix (.v 0) (.int 1)) (.ix (.v 1) (.int 1))) .nil)))) .nil)⟩
/-- ratio_less -/
def F12 : Fn := ⟨"ratio_less", ["one", "two"], ["one", "two"], [.val, .val], false, (.cons (.ret (.call 10 (.val (.op .sub (.op .mul (.ix (.v 0) (.int 0)) (.ix (.v 1) (.int 1))) (.op .mul (.ix (.v 1) (.int 0)) (.ix (.v 0) (.int 1)))) (.val (.op .mul (.ix (.v 0) (.int 1)) (.ix (.v 1) (.int 1))) .nil)))) .nil)⟩
/-- ratio_product -/
def F13 : Fn := ⟨"ratio_product", ["one", "two"], ["one", "two"], [.val, .val], false, (.cons (.ret (.call 10 (.val (.op .mul (.ix (.v 0) (.int 0)) (.ix (.v 1) (.int 0))) (.val (.op .mul (.ix (.v 0) (.int 1)) (.ix (.v 1) (.int 1))) .nil)))) .nil)⟩
/-- ratio_over -/
def F14 : Fn := ⟨"ratio_over", ["one", "two"], ["one", "two"], [.val, .val], false, (.cons (.ret (.call 10 (.val (.op .mul (.ix (.v 0) (.int 0)) (.ix (.v 1) (.int 1))) (.val (.op .mul (.ix (.v 0) (.int 1)) (.ix (.v 1) (.int 0))) .nil)))) .nil)⟩
/-- are_ratios -/
def F25 : Fn := ⟨"are_ratios", ["value"], ["value", "number"], [.val, .val], false, (.cons (.ret (.and (.isi "tuple" (.v 0)) (.bi .all (.cons (.lc (.call 9 (.val (.v 1) .nil)) (.n 1) (.seq (.v 0)) [1]) .nil)))) .nil)⟩
/-- is_parts -/
def F26 : Fn := ⟨"is_parts", ["value"], ["value"], [.val], false, (.cons (.ret (.and (.call 25 (.val (.v 0) .nil)) (.or (.cmp .eq (.v 0) (.tup .nil)) (.cmp .ne (.ix (.v 0) (.neg (.int 1))) (.g 0))))) .nil)⟩
/-- without_noughts -/
def F27 : Fn := ⟨"without_noughts", ["numbers"], ["numbers", "found"], [.val, .loc], false, (.cons (.own 1 (.bi .list (.cons (.v 0) .nil))) (.cons (.whl (.and (.cmp .ne (.v 1) (.lst .nil)) (.cmp .eq (.ix (.v 1) (.neg (.int 1))) (.g 0))) (.cons (.pop 1) .nil)) (.cons (.ret (.bi .tuple (.cons (.v 1) .nil))) .nil)))⟩
/-- parts_sum -/
def F28 : Fn := ⟨"parts_sum", ["one", "two"], ["one", "two", "many", "first", "second", "here", "there"], [.val, .val, .val, .val, .val, .val, .val], false, (.cons (.asg (.n 2) (.bi .max2 (.cons (.bi .len (.cons (.v 0) .nil)) (.cons (.bi .len (.cons (.v 1) .nil)) .nil)))) (.cons (.par [(3, false), (4, false)] (.cons (.op .add (.bi .list (.cons (.v 0) .nil)) (.op .mul (.lst (.cons (.g 0) .nil)) (.op .sub (.v 2) (.bi .len (.cons (.v 0) .nil))))) (.cons (.op .add (.bi .list (.cons (.v 1) .nil)) (.op .mul (.lst (.cons (.g 0) .nil)) (.op .sub (.v 2) (.bi .len (.cons (.v 1) .nil))))) .nil))) (.cons (.ret (.call 27 (.val (.lc (.call 11 (.val (.v 5) (.val (.v 6) .nil))) (.t [(.n 5), (.n 6)]) (.zip (.v 3) (.v 4)) [5, 6]) .nil))) .nil)))⟩
/-- parts_product -/
def F30 : Fn := ⟨"parts_product", ["one", "two"], ["one", "two", "found", "place", "number", "at", "factor"], [.val, .val, .loc, .val, .val, .val, .val], false, (.cons (.own 2 (.op .mul (.lst (.cons (.g 0) .nil)) (.op .add (.bi .len (.cons (.v 0) .nil)) (.bi .len (.cons (.v 1) .nil))))) (.cons (.for_ (.t [(.n 3), (.n 4)]) (.enum (.v 0)) (.cons (.for_ (.t [(.n 5), (.n 6)]) (.enum (.v 1)) (.cons (.sub false 2 (.op .add (.v 3) (.v 5)) (.call 11 (.val (.ix (.v 2) (.op .add (.v 3) (.v 5))) (.val (.call 13 (.val (.v 4) (.val (.v 6) .nil))) .nil)))) .nil)) .nil)) (.cons (.ret (.call 27 (.bor 2 .nil))) .nil)))⟩
/-- sum_of_parts -/
def F35 : Fn := ⟨"sum_of_parts", ["one"], ["one", "found", "number"], [.val, .val, .val], false, (.cons (.asg (.n 1) (.g 0)) (.cons (.for_ (.n 2) (.seq (.v 0)) (.cons (.asg (.n 1) (.call 11 (.val (.v 1) (.val (.v 2) .nil)))) .nil)) (.cons (.ret (.v 1)) .nil)))⟩
/-- moved_parts -/
def F300 : Fn := ⟨"moved_parts", ["parts", "step"], ["parts", "step", "found", "number"], [.val, .val, .val, .val], false, (.cons (.asg (.n 2) (.tup .nil)) (.cons (.for_ (.n 3) (.rev (.v 0)) (.cons (.asg (.n 2) (.call 28 (.val (.call 30 (.val (.v 2) (.val (.tup (.cons (.tup (.cons (.v 1) (.cons (.int 1) .nil))) (.cons (.g 1) .nil))) .nil))) (.val (.call 27 (.val (.lst (.cons (.v 3) .nil)) .nil)) .nil)))) .nil)) (.cons (.ret (.v 2)) .nil)))⟩
/-- log_numbers -/
def F301 : Fn := ⟨"log_numbers", ["many"], ["many", "place"], [.val, .val], true, (.cons (.retF (.lc (.tup (.cons (.ife (.cmp .eq (.op .mod (.v 1) (.int 2)) (.int 0)) (.int 1) (.neg (.int 1))) (.cons (.op .add (.v 1) (.int 1)) .nil))) (.n 1) (.rng1 (.v 0)) [1])) .nil)⟩
/-- back_numbers -/
def F302 : Fn := ⟨"back_numbers", ["many"], ["many", "place", "logs", "found", "here", "at"], [.val, .val, .val, .loc, .val, .val], true, (.cons (.par [(2, false), (3, true)] (.cons (.call 301 (.val (.v 0) .nil)) (.cons (.lst .nil) .nil))) (.cons (.for_ (.n 1) (.rng1 (.v 0)) (.cons (.asg (.n 4) (.ife (.cmp .eq (.v 1) (.int 0)) (.g 1) (.g 0))) (.cons (.for_ (.n 5) (.rng1 (.v 1)) (.cons (.asg (.n 4) (.call 12 (.val (.v 4) (.val (.call 13 (.val (.ix (.v 2) (.op .sub (.v 1) (.v 5))) (.val (.ix (.v 3) (.v 5)) .nil))) .nil)))) .nil)) (.cons (.app 3 (.v 4)) .nil)))) (.cons (.retO 3) .nil)))⟩
/-- cut_product -/
def F303 : Fn := ⟨"cut_product", ["one", "two", "many"], ["one", "two", "many", "found", "place", "number", "at"], [.val, .val, .val, .loc, .val, .val, .val], true, (.cons (.own 3 (.op .mul (.lst (.cons (.g 0) .nil)) (.v 2))) (.cons (.for_ (.t [(.n 4), (.n 5)]) (.enum (.v 0)) (.cons (.for_ (.n 6) (.rng1 (.bi .min2 (.cons (.bi .len (.cons (.v 1) .nil)) (.cons (.op .sub (.v 2) (.v 4)) .nil)))) (.cons (.sub false 3 (.op .add (.v 4) (.v 6)) (.call 11 (.val (.ix (.v 3) (.op .add (.v 4) (.v 6))) (.val (.call 13 (.val (.v 5) (.val (.ix (.v 1) (.v 6)) .nil))) .nil)))) .nil)) .nil)) (.cons (.retO 3) .nil)))⟩
/-- with_noughts -/
def F119 : Fn := ⟨"with_noughts", ["numbers", "many"], ["numbers", "many"], [.val, .val], false, (.cons (.ret (.op .add (.bi .tuple (.cons (.v 0) .nil)) (.op .mul (.tup (.cons (.g 0) .nil)) (.op .sub (.v 1) (.bi .len (.cons (.v 0) .nil)))))) .nil)⟩
/-- best_rule -/
def F304 : Fn := ⟨"best_rule", ["first", "many"], ["first", "many", "found"], [.val, .val, .val], false, (.cons (.asg (.n 2) (.call 303 (.val (.sl (.call 300 (.val (.v 0) (.val (.int 1) .nil))) (.so (.int 1)) .no) (.val (.call 302 (.val (.v 1) .nil)) (.val (.v 1) .nil))))) (.cons (.ret (.tup (.cons (.v 0) (.cons (.call 119 (.val (.call 300 (.val (.call 27 (.val (.v 2) .nil)) (.val (.neg (.int 1)) .nil))) (.val (.bi .len (.cons (.v 0) .nil)) .nil))) .nil)))) .nil))⟩
/-- first_for -/
def F312 : Fn := ⟨"first_for", ["second", "steps"], ["second", "steps", "found"], [.val, .val, .val], false, (.cons (.asg (.n 2) (.op .add (.lst (.cons (.g 0) .nil)) (.call 303 (.val (.call 300 (.val (.v 0) (.val (.int 1) .nil))) (.val (.call 301 (.val (.v 1) .nil)) (.val (.v 1) .nil)))))) (.cons (.ret (.call 300 (.val (.call 27 (.val (.v 2) .nil)) (.val (.neg (.int 1)) .nil)))) .nil))⟩
/-- last_step -/
def F318 : Fn := ⟨"last_step", ["steps"], ["steps"], [.val], false, (.cons (.ret (.op .add (.op .mul (.tup (.cons (.g 0) .nil)) (.op .sub (.v 0) (.int 1))) (.tup (.cons (.tup (.cons (.neg (.int 1)) (.cons (.int 1) .nil))) (.cons (.g 1) .nil))))) .nil)⟩
/-- is_ruled -/
def F61 : Fn := ⟨"is_ruled", ["value"], ["value"], [.val], false, (.cons (.ifs (.or (.not (.isi "tuple" (.v 0))) (.or (.cmp .ne (.bi .len (.cons (.v 0) .nil)) (.int 2)) (.or (.not (.call 25 (.val (.ix (.v 0) (.int 0)) .nil))) (.not (.call 25 (.val (.ix (.v 0) (.int 1)) .nil)))))) (.cons (.ret (.bl false)) .nil) .nil) (.cons (.ret (.and (.chn .le .le (.int 2) (.bi .len (.cons (.ix (.v 0) (.int 0)) .nil)) (.op .add (.g 5) (.int 1))) (.and (.cmp .eq (.bi .len (.cons (.ix (.v 0) (.int 1)) .nil)) (.bi .len (.cons (.ix (.v 0) (.int 0)) .nil))) (.cmp .ne (.ix (.ix (.v 0) (.int 0)) (.neg (.int 1))) (.g 0))))) .nil))⟩
/-- defect -/
def F66 : Fn := ⟨"defect", ["rule", "number"], ["rule", "number", "each", "found", "factor", "place", "power", "here", "a", "b"], [.val, .val, .val, .val, .val, .val, .val, .val, .val, .val], false, (.cons (.ifs (.cmp .eq (.v 1) (.int 0)) (.cons (.ret (.call 35 (.val (.ix (.v 0) (.int 0)) .nil))) .nil) .nil) (.cons (.par [(3, false), (4, false)] (.cons (.g 0) (.cons (.int 1) .nil))) (.cons (.for_ (.n 2) (.rng2 (.int 1) (.op .add (.v 1) (.int 1))) (.cons (.asg (.n 4) (.op .mul (.v 4) (.v 2))) .nil)) (.cons (.for_ (.t [(.n 5), (.t [(.n 8), (.n 9)])]) (.enz (.ix (.v 0) (.int 0)) (.ix (.v 0) (.int 1))) (.cons (.asg (.n 6) (.call 8 (.val (.v 5) (.val (.op .sub (.v 1) (.int 1)) .nil)))) (.cons (.asg (.n 7) (.call 12 (.val (.call 13 (.val (.v 8) (.val (.tup (.cons (.op .mul (.v 6) (.v 5)) (.cons (.int 1) .nil))) .nil))) (.val (.call 13 (.val (.v 9) (.val (.tup (.cons (.op .mul (.v 6) (.v 1)) (.cons (.int 1) .nil))) .nil))) .nil)))) (.cons (.asg (.n 3) (.call 11 (.val (.v 3) (.val (.v 7) .nil)))) .nil)))) (.cons (.ret (.call 14 (.val (.v 3) (.val (.tup (.cons (.v 4) (.cons (.int 1) .nil))) .nil)))) .nil)))))⟩
/-- order_told -/
def F67 : Fn := ⟨"order_told", ["rule"], ["rule", "number"], [.val, .val], false, (.cons (.asg (.n 1) (.int 0)) (.cons (.whl (.cmp .eq (.call 66 (.val (.v 0) (.val (.v 1) .nil))) (.g 0)) (.cons (.asg (.n 1) (.op .add (.v 1) (.int 1))) .nil)) (.cons (.ret (.tup (.cons (.op .sub (.v 1) (.int 1)) (.cons (.call 66 (.val (.v 0) (.val (.v 1) .nil))) .nil)))) .nil)))⟩
/-- check_some_polynomial -/
def F75 : Fn := ⟨"check_some_polynomial", ["value"], ["value"], [.val], false, (.cons (.ifs (.or (.not (.call 26 (.val (.v 0) .nil))) (.cmp .eq (.v 0) (.tup .nil))) (.cons .rais .nil) .nil) .nil)⟩
/-- check_rule -/
def F76 : Fn := ⟨"check_rule", ["value"], ["value"], [.val], false, (.cons (.ifs (.not (.call 61 (.val (.v 0) .nil))) (.cons .rais .nil) .nil) .nil)⟩
/-- check_number -/
def F77 : Fn := ⟨"check_number", ["value", "low", "high"], ["value", "low", "high"], [.val, .val, .val], false, (.cons (.ifs (.not (.call 3 (.val (.v 0) (.val (.v 1) (.val (.v 2) .nil))))) (.cons .rais .nil) .nil) .nil)⟩
/-- best_first -/
def F313 : Fn := ⟨"best_first", ["polynomial", "steps"], ["polynomial", "steps", "first"], [.val, .val, .val], false, (.cons (.ex (.call 75 (.val (.v 0) .nil))) (.cons (.ex (.call 77 (.val (.v 1) (.val (.int 1) (.val (.g 5) .nil))))) (.cons (.ifs (.cmp .gt (.bi .len (.cons (.v 0) .nil)) (.op .add (.v 1) (.int 1))) (.cons .rais .nil) .nil) (.cons (.asg (.n 2) (.call 312 (.val (.v 0) (.val (.v 1) .nil)))) (.cons (.ifs (.cmp .ne (.bi .len (.cons (.v 2) .nil)) (.op .add (.v 1) (.int 1))) (.cons .rais .nil) .nil) (.cons (.ret (.tup (.cons (.v 2) (.cons (.call 119 (.val (.v 0) (.val (.op .add (.v 1) (.int 1)) .nil))) .nil)))) .nil))))))⟩
/-- adams -/
def F319 : Fn := ⟨"adams", ["steps"], ["steps"], [.val], false, (.cons (.ex (.call 77 (.val (.v 0) (.val (.int 1) (.val (.g 5) .nil))))) (.cons (.ret (.call 304 (.val (.call 318 (.val (.v 0) .nil)) (.val (.v 0) .nil)))) .nil))⟩
/-- moulton -/
def F320 : Fn := ⟨"moulton", ["steps"], ["steps"], [.val], false, (.cons (.ex (.call 77 (.val (.v 0) (.val (.int 1) (.val (.g 5) .nil))))) (.cons (.ret (.call 304 (.val (.call 318 (.val (.v 0) .nil)) (.val (.op .add (.v 0) (.int 1)) .nil)))) .nil))⟩
/-- backward -/
def F321 : Fn := ⟨"backward", ["steps"], ["steps"], [.val], false, (.cons (.ex (.call 77 (.val (.v 0) (.val (.int 1) (.val (.g 5) .nil))))) (.cons (.ret (.call 313 (.val (.op .add (.op .mul (.tup (.cons (.g 0) .nil)) (.v 0)) (.tup (.cons (.g 1) .nil))) (.val (.v 0) .nil)))) .nil))⟩
/-- order_of -/
def F150 : Fn := ⟨"order_of", ["rule"], ["rule"], [.val], false, (.cons (.ex (.call 76 (.val (.v 0) .nil))) (.cons (.ret (.ix (.call 67 (.val (.v 0) .nil)) (.int 0))) .nil))⟩
/-- error_number -/
def F282 : Fn := ⟨"error_number", ["rule"], ["rule", "under"], [.val, .val], false, (.cons (.ex (.call 76 (.val (.v 0) .nil))) (.cons (.asg (.n 1) (.call 35 (.val (.ix (.v 0) (.int 1)) .nil))) (.cons (.ret (.ife (.cmp .eq (.v 1) (.g 0)) .non (.call 14 (.val (.ix (.call 67 (.val (.v 0) .nil)) (.int 1)) (.val (.v 1) .nil))))) .nil)))⟩
/-- _law_vein -/
def F168 : Fn := ⟨"_law_vein", ["script", "turn"], ["script", "turn", "cell", "made", "each"], [.val, .val, .val, .val, .val], true, (.cons (.asg (.n 2) (.ife (.cmp .lt (.v 1) (.bi .len (.cons (.v 0) .nil))) (.bi .int (.cons (.ix (.v 0) (.v 1)) .nil)) (.op .add (.op .add (.op .mul (.int 7451) (.v 1)) (.int 883)) (.op .mod (.bi .int (.cons (.bi .sum (.cons (.sl (.v 0) .no (.so (.int 7))) .nil)) .nil)) (.int 999983))))) (.cons (.asg (.n 3) (.op .add (.int 52361) (.op .mul (.int 4127) (.v 1)))) (.cons (.for_ (.n 4) (.seq (.op .add (.sl (.v 0) .no (.so (.int 63))) (.lst (.cons (.v 2) .nil)))) (.cons (.asg (.n 3) (.op .mod (.bi .int (.cons (.op .add (.op .add (.op .mul (.v 3) (.int 44041)) (.op .mod (.bi .int (.cons (.v 4) .nil)) (.int 2147483489))) (.int 37)) .nil)) (.int 2147483489))) .nil)) (.cons (.retF (.lst (.cons (.ife (.or (.cmp .lt (.v 2) (.int 0)) (.cmp .ge (.v 2) (.op .pow (.int 10) (.int 18)))) (.bi .abs (.cons (.v 2) .nil)) (.int 0)) (.cons (.v 3) (.cons (.int 0) .nil))))) .nil))))⟩
/-- _law_chip -/
def F169 : Fn := ⟨"_law_chip", ["vein", "most"], ["vein", "most", "figure"], [.io, .val, .val], false, (.cons (.ifs (.cmp .gt (.ix (.v 0) (.int 0)) (.int 0)) (.cons (.asg (.n 2) (.op .mod (.bi .int (.cons (.ix (.v 0) (.int 0)) .nil)) (.v 1))) (.cons (.sub true 0 (.int 0) (.op .fdiv (.bi .int (.cons (.ix (.v 0) (.int 0)) .nil)) (.v 1))) (.cons (.ret (.v 2)) .nil))) .nil) (.cons (.sub true 0 (.int 2) (.op .add (.ix (.v 0) (.int 2)) (.int 1))) (.cons (.sub true 0 (.int 1) (.op .mod (.bi .int (.cons (.op .add (.op .add (.op .mul (.ix (.v 0) (.int 1)) (.op .add (.int 28657) (.op .mul (.int 10) (.ix (.v 0) (.int 2))))) (.op .mul (.int 71993) (.ix (.v 0) (.int 2)))) (.int 41)) .nil)) (.int 2147483549))) (.cons (.ret (.op .mod (.bi .int (.cons (.op .fdiv (.ix (.v 0) (.int 1)) (.int 83)) .nil)) (.v 1))) .nil))))⟩
/-- _law_shared -/
def F171 : Fn := ⟨"_law_shared", ["one", "two"], ["one", "two"], [.val, .val], false, (.cons (.par [(0, false), (1, false)] (.cons (.bi .abs (.cons (.v 0) .nil)) (.cons (.bi .abs (.cons (.v 1) .nil)) .nil))) (.cons (.whl (.cmp .gt (.v 1) (.int 0)) (.cons (.par [(0, false), (1, false)] (.cons (.v 1) (.cons (.op .mod (.bi .int (.cons (.v 0) .nil)) (.v 1)) .nil))) .nil)) (.cons (.ret (.v 0)) .nil)))⟩
/-- _law_f -/
def F172 : Fn := ⟨"_law_f", ["over", "under"], ["over", "under", "by"], [.val, .val, .val], false, (.cons (.asg (.n 2) (.ife (.cmp .gt (.v 1) (.int 0)) (.call 171 (.val (.v 0) (.val (.v 1) .nil))) (.op .sub (.int 0) (.call 171 (.val (.v 0) (.val (.v 1) .nil)))))) (.cons (.ret (.tup (.cons (.op .fdiv (.v 0) (.v 2)) (.cons (.op .fdiv (.v 1) (.v 2)) .nil)))) .nil))⟩
/-- _law_add -/
def F185 : Fn := ⟨"_law_add", ["x", "y"], ["x", "y"], [.val, .val], false, (.cons (.ret (.call 172 (.val (.op .add (.op .mul (.ix (.v 0) (.int 0)) (.ix (.v 1) (.int 1))) (.op .mul (.ix (.v 1) (.int 0)) (.ix (.v 0) (.int 1)))) (.val (.op .mul (.ix (.v 0) (.int 1)) (.ix (.v 1) (.int 1))) .nil)))) .nil)⟩
/-- _law_sub -/
def F186 : Fn := ⟨"_law_sub", ["x", "y"], ["x", "y"], [.val, .val], false, (.cons (.ret (.call 172 (.val (.op .sub (.op .mul (.ix (.v 0) (.int 0)) (.ix (.v 1) (.int 1))) (.op .mul (.ix (.v 1) (.int 0)) (.ix (.v 0) (.int 1)))) (.val (.op .mul (.ix (.v 0) (.int 1)) (.ix (.v 1) (.int 1))) .nil)))) .nil)⟩
/-- _law_mul -/
def F187 : Fn := ⟨"_law_mul", ["x", "y"], ["x", "y"], [.val, .val], false, (.cons (.ret (.call 172 (.val (.op .mul (.ix (.v 0) (.int 0)) (.ix (.v 1) (.int 0))) (.val (.op .mul (.ix (.v 0) (.int 1)) (.ix (.v 1) (.int 1))) .nil)))) .nil)⟩
/-- _law_over -/
def F322 : Fn := ⟨"_law_over", ["n", "j"], ["n", "j", "found", "k"], [.val, .val, .val, .val], false, (.cons (.asg (.n 2) (.int 1)) (.cons (.for_ (.n 3) (.rng1 (.v 1)) (.cons (.asg (.n 2) (.op .fdiv (.op .mul (.v 2) (.op .sub (.v 0) (.v 3))) (.op .add (.v 3) (.int 1)))) .nil)) (.cons (.ret (.v 2)) .nil)))⟩
/-- _law_gammas -/
def F323 : Fn := ⟨"_law_gammas", ["many", "is_new"], ["many", "is_new", "found", "m", "here", "j"], [.val, .val, .loc, .val, .val, .val], true, (.cons (.own 2 (.lst (.cons (.tup (.cons (.int 1) (.cons (.int 1) .nil))) .nil))) (.cons (.for_ (.n 3) (.rng2 (.int 1) (.op .add (.v 0) (.int 1))) (.cons (.asg (.n 4) (.ife (.v 1) (.tup (.cons (.int 0) (.cons (.int 1) .nil))) (.tup (.cons (.int 1) (.cons (.int 1) .nil))))) (.cons (.for_ (.n 5) (.rng1 (.v 3)) (.cons (.asg (.n 4) (.call 186 (.val (.v 4) (.val (.call 187 (.val (.ix (.v 2) (.v 5)) (.val (.call 172 (.val (.int 1) (.val (.op .add (.op .sub (.v 3) (.v 5)) (.int 1)) .nil))) .nil))) .nil)))) .nil)) (.cons (.app 2 (.v 4)) .nil)))) (.cons (.retO 2) .nil)))⟩
/-- _law_by_differences -/
def F324 : Fn := ⟨"_law_by_differences", ["numbers", "up"], ["numbers", "up", "found", "m", "j", "many"], [.val, .val, .loc, .val, .val, .val], false, (.cons (.own 2 (.op .mul (.lst (.cons (.tup (.cons (.int 0) (.cons (.int 1) .nil))) .nil)) (.op .add (.v 1) (.int 1)))) (.cons (.for_ (.n 3) (.rng1 (.bi .len (.cons (.v 0) .nil))) (.cons (.for_ (.n 4) (.rng1 (.op .add (.v 3) (.int 1))) (.cons (.asg (.n 5) (.op .mul (.call 322 (.val (.v 3) (.val (.v 4) .nil))) (.op .sub (.int 1) (.op .mul (.int 2) (.op .mod (.bi .int (.cons (.v 4) .nil)) (.int 2)))))) (.cons (.sub false 2 (.op .sub (.v 1) (.v 4)) (.call 185 (.val (.ix (.v 2) (.op .sub (.v 1) (.v 4))) (.val (.call 187 (.val (.ix (.v 0) (.v 3)) (.val (.tup (.cons (.v 5) (.cons (.int 1) .nil))) .nil))) .nil)))) .nil))) .nil)) (.cons (.ret (.bi .tuple (.cons (.v 2) .nil))) .nil)))⟩
/-- _law_right -/
def F325 : Fn := ⟨"_law_right", ["vein"], ["vein", "up", "first", "due", "numbers", "told", "last", "old", "new", "m", "each"], [.io, .val, .val, .loc, .val, .val, .val, .val, .val, .val, .val], false, (.cons (.asg (.n 1) (.op .add (.int 1) (.call 169 (.io 0 (.val (.int 8) .nil))))) (.cons (.asg (.n 2) (.op .add (.op .mul (.tup (.cons (.tup (.cons (.int 0) (.cons (.int 1) .nil))) .nil)) (.op .sub (.v 1) (.int 1))) (.tup (.cons (.tup (.cons (.neg (.int 1)) (.cons (.int 1) .nil))) (.cons (.tup (.cons (.int 1) (.cons (.int 1) .nil))) .nil))))) (.cons (.par [(7, false), (8, false)] (.cons (.call 323 (.val (.v 1) (.val (.bl false) .nil))) (.cons (.call 323 (.val (.op .add (.v 1) (.int 1)) (.val (.bl true) .nil))) .nil))) (.cons (.own 3 (.lst (.cons (.tup (.cons (.v 2) (.cons (.op .add (.call 324 (.val (.sl (.v 7) .no (.so (.v 1))) (.val (.op .sub (.v 1) (.int 1)) .nil))) (.tup (.cons (.tup (.cons (.int 0) (.cons (.int 1) .nil))) .nil))) .nil))) (.cons (.tup (.cons (.v 2) (.cons (.call 324 (.val (.sl (.v 8) .no (.so (.op .add (.v 1) (.int 1)))) (.val (.v 1) .nil))) .nil))) .nil)))) (.cons (.asg (.n 4) (.op .add (.lst (.cons (.tup (.cons (.int 0) (.cons (.int 1) .nil))) .nil)) (.lc (.call 172 (.val (.int 1) (.val (.v 9) .nil))) (.n 9) (.rng2 (.int 1) (.op .add (.v 1) (.int 1))) [9]))) (.cons (.app 3 (.tup (.cons (.call 324 (.val (.v 4) (.val (.v 1) .nil))) (.cons (.op .add (.op .mul (.tup (.cons (.tup (.cons (.int 0) (.cons (.int 1) .nil))) .nil)) (.v 1)) (.tup (.cons (.tup (.cons (.int 1) (.cons (.int 1) .nil))) .nil))) .nil)))) (.cons (.asg (.n 5) (.lst (.cons (.call 319 (.val (.v 1) .nil)) (.cons (.call 320 (.val (.v 1) .nil)) (.cons (.call 321 (.val (.v 1) .nil)) .nil))))) (.cons (.ifs (.or (.cmp .ne (.bi .repr (.cons (.v 5) .nil)) (.bi .repr (.cons (.v 3) .nil))) (.cmp .ne (.bi .repr (.cons (.lst (.cons (.callk 319 .nil (.cons (.v 1) .nil) [0]) (.cons (.callk 320 .nil (.cons (.v 1) .nil) [0]) (.cons (.callk 321 .nil (.cons (.v 1) .nil) [0]) .nil)))) .nil)) (.bi .repr (.cons (.v 3) .nil)))) (.cons (.ret (.bl false)) .nil) .nil) (.cons (.ifs (.cmp .ne (.bi .repr (.cons (.lc (.call 150 (.val (.v 10) .nil)) (.n 10) (.seq (.v 5)) [10]) .nil)) (.bi .repr (.cons (.lst (.cons (.v 1) (.cons (.op .add (.v 1) (.int 1)) (.cons (.v 1) .nil)))) .nil))) (.cons (.ret (.bl false)) .nil) .nil) (.cons (.asg (.n 6) (.lst (.cons (.ix (.v 7) (.v 1)) (.cons (.ix (.v 8) (.op .add (.v 1) (.int 1))) (.cons (.call 172 (.val (.op .sub (.int 0) (.int 1)) (.val (.op .add (.v 1) (.int 1)) .nil))) .nil))))) (.cons (.ret (.cmp .eq (.bi .repr (.cons (.lc (.call 282 (.val (.v 10) .nil)) (.n 10) (.seq (.v 5)) [10]) .nil)) (.bi .repr (.cons (.v 6) .nil)))) .nil)))))))))))⟩
/-- law -/
def F326 : Fn := ⟨"law", ["script"], ["script", "turn"], [.val, .val], false, (.cons (.ret (.bi .all (.cons (.lc (.callT 325 168 (.val (.v 0) (.val (.v 1) .nil))) (.n 1) (.rng1 (.bi .max2 (.cons (.int 2) (.cons (.bi .min2 (.cons (.bi .len (.cons (.v 0) .nil)) (.cons (.int 3) .nil))) .nil)))) [1]) .nil))) .nil)⟩
/-- parts_scaled (not of this law) -/
def F29 : Fn := ⟨"parts_scaled", ["one", "number"], ["one", "number", "each"], [.val, .val, .val], false, (.cons (.ret (.call 27 (.val (.lc (.call 13 (.val (.v 2) (.val (.v 1) .nil))) (.n 2) (.seq (.v 0)) [2]) .nil))) .nil)⟩
/-- many_steps (not of this law) -/
def F62 : Fn := ⟨"many_steps", ["rule"], ["rule"], [.val], false, (.cons (.ret (.op .sub (.bi .len (.cons (.ix (.v 0) (.int 0)) .nil)) (.int 1))) .nil)⟩
/-- kernel_of (not of this law) -/
def F69 : Fn := ⟨"kernel_of", ["rule", "number"], ["rule", "number", "place", "back", "found", "here", "at"], [.val, .val, .val, .val, .loc, .val, .val], true, (.cons (.par [(3, false), (4, true)] (.cons (.rev (.ix (.v 0) (.int 0))) (.cons (.lst .nil) .nil))) (.cons (.for_ (.n 2) (.rng1 (.op .add (.v 1) (.int 1))) (.cons (.asg (.n 5) (.ife (.cmp .eq (.v 2) (.int 0)) (.g 1) (.g 0))) (.cons (.for_ (.n 6) (.rng2 (.int 1) (.op .add (.bi .min2 (.cons (.v 2) (.cons (.call 62 (.val (.v 0) .nil)) .nil))) (.int 1))) (.cons (.asg (.n 5) (.call 12 (.val (.v 5) (.val (.call 13 (.val (.ix (.v 3) (.v 6)) (.val (.ix (.v 4) (.op .sub (.v 2) (.v 6))) .nil))) .nil)))) .nil)) (.cons (.app 4 (.call 14 (.val (.v 5) (.val (.ix (.v 3) (.int 0)) .nil)))) .nil)))) (.cons (.retO 4) .nil)))⟩
/-- check_polynomial (not of this law) -/
def F74 : Fn := ⟨"check_polynomial", ["value"], ["value"], [.val], false, (.cons (.ifs (.not (.call 26 (.val (.v 0) .nil))) (.cons .rais .nil) .nil) .nil)⟩
/-- kernel (not of this law) -/
def F89 : Fn := ⟨"kernel", ["rule", "number"], ["rule", "number"], [.val, .val], false, (.cons (.ex (.call 76 (.val (.v 0) .nil))) (.cons (.ex (.call 77 (.val (.v 1) (.val (.int 0) (.val (.g 8) .nil))))) (.cons (.ret (.bi .tuple (.cons (.call 69 (.val (.v 0) (.val (.v 1) .nil))) .nil))) .nil)))⟩
/-- _law_choice (not of this law) -/
def F170 : Fn := ⟨"_law_choice", ["vein", "some"], ["vein", "some"], [.io, .val], false, (.cons (.ret (.ix (.v 1) (.call 169 (.io 0 (.val (.bi .len (.cons (.v 1) .nil)) .nil))))) .nil)⟩
/-- _law_any (not of this law) -/
def F173 : Fn := ⟨"_law_any", ["vein"], ["vein", "wide"], [.io, .val], false, (.cons (.asg (.n 1) (.call 170 (.io 0 (.val (.lst (.cons (.int 3) (.cons (.int 3) (.cons (.int 3) (.cons (.int 6) (.cons (.int 6) (.cons (.int 40) .nil))))))) .nil)))) (.cons (.ret (.call 172 (.val (.op .sub (.call 169 (.io 0 (.val (.op .add (.op .mul (.int 2) (.v 1)) (.int 1)) .nil))) (.v 1)) (.val (.call 170 (.io 0 (.val (.lst (.cons (.int 1) (.cons (.int 1) (.cons (.int 1) (.cons (.int 1) (.cons (.int 2) (.cons (.int 2) (.cons (.int 3) (.cons (.int 5) (.cons (.int 12) .nil)))))))))) .nil))) .nil)))) .nil))⟩
/-- _law_odd (not of this law) -/
def F174 : Fn := ⟨"_law_odd", ["vein"], ["vein", "bare", "pairs", "deep"], [.io, .val, .val, .val], false, (.cons (.asg (.n 1) (.lst (.cons .non (.cons (.bl true) (.cons (.bl false) (.cons (.int 0) (.cons (.int 1) (.cons (.neg (.int 3)) (.cons (.op .pow (.int 10) (.int 25)) (.cons (.str "") (.cons (.str "0/1") (.cons (.str "rule") (.cons .dic0 (.cons (.dic1 "a" 0) (.cons (.lst .nil) (.cons (.lst (.cons (.int 0) (.cons (.int 1) .nil))) (.cons (.lst (.cons (.tup (.cons (.int 0) (.cons (.int 1) .nil))) (.cons (.tup (.cons (.int 1) (.cons (.int 1) .nil))) .nil))) .nil))))))))))))))))) (.cons (.asg (.n 2) (.lst (.cons (.tup (.cons (.int 0) (.cons (.int 1) .nil))) (.cons (.tup (.cons (.int 1) (.cons (.int 1) .nil))) (.cons (.tup (.cons (.neg (.int 2)) (.cons (.int 3) .nil))) (.cons (.tup (.cons (.int 3) (.cons (.int 6) .nil))) (.cons (.tup (.cons (.int 1) (.cons (.int 0) .nil))) (.cons (.tup (.cons (.int 2) (.cons (.neg (.int 1)) .nil))) (.cons (.tup (.cons (.int 0) (.cons (.int 5) .nil))) (.cons (.tup (.cons (.bl true) (.cons (.int 2) .nil))) (.cons (.tup (.cons (.int 1) (.cons (.bl false) .nil))) (.cons (.tup (.cons (.int 1) (.cons (.int 2) (.cons (.int 3) .nil)))) (.cons (.tup .nil) (.cons (.tup (.cons (.int 4) .nil)) .nil)))))))))))))) (.cons (.asg (.n 3) (.lst (.cons (.tup (.cons (.tup (.cons (.int 0) (.cons (.int 1) .nil))) (.cons (.tup (.cons (.int 1) (.cons (.int 1) .nil))) .nil))) (.cons (.tup (.cons (.tup (.cons (.tup (.cons (.int 1) (.cons (.int 1) .nil))) (.cons (.tup (.cons (.int 1) (.cons (.int 1) .nil))) .nil))) (.cons (.tup (.cons (.tup (.cons (.int 1) (.cons (.int 1) .nil))) (.cons (.tup (.cons (.int 0) (.cons (.int 1) .nil))) .nil))) .nil))) (.cons (.tup (.cons (.tup (.cons (.int 0) (.cons (.int 1) .nil))) .nil)) (.cons (.tup (.cons (.tup (.cons (.int 1) (.cons (.int 2) .nil))) (.cons (.tup (.cons (.int 0) (.cons (.int 3) .nil))) .nil))) (.cons (.tup (.cons (.tup (.cons (.tup (.cons (.int 0) (.cons (.int 1) .nil))) .nil)) (.cons (.int 1) .nil))) .nil))))))) (.cons (.ret (.call 170 (.io 0 (.val (.op .add (.op .add (.op .add (.v 1) (.v 2)) (.v 3)) (.lst (.cons (.tup (.cons .non (.cons (.int 1) .nil))) .nil))) .nil)))) .nil))))⟩
/-- _law_trim (not of this law) -/
def F188 : Fn := ⟨"_law_trim", ["row"], ["row"], [.val], false, (.cons (.asg (.n 0) (.bi .list (.cons (.v 0) .nil))) (.cons (.whl (.and (.cmp .gt (.bi .len (.cons (.v 0) .nil)) (.int 0)) (.cmp .eq (.ix (.ix (.v 0) (.neg (.int 1))) (.int 0)) (.int 0))) (.cons (.asg (.n 0) (.sl (.v 0) .no (.so (.neg (.int 1))))) .nil)) (.cons (.ret (.bi .tuple (.cons (.v 0) .nil))) .nil)))⟩
/-- _law_plus (not of this law) -/
def F189 : Fn := ⟨"_law_plus", ["one", "two"], ["one", "two", "far", "k"], [.val, .val, .val, .val], false, (.cons (.asg (.n 2) (.bi .max2 (.cons (.bi .len (.cons (.v 0) .nil)) (.cons (.bi .len (.cons (.v 1) .nil)) .nil)))) (.cons (.asg (.n 0) (.op .add (.bi .list (.cons (.v 0) .nil)) (.op .mul (.lst (.cons (.tup (.cons (.int 0) (.cons (.int 1) .nil))) .nil)) (.op .sub (.v 2) (.bi .len (.cons (.v 0) .nil)))))) (.cons (.asg (.n 1) (.op .add (.bi .list (.cons (.v 1) .nil)) (.op .mul (.lst (.cons (.tup (.cons (.int 0) (.cons (.int 1) .nil))) .nil)) (.op .sub (.v 2) (.bi .len (.cons (.v 1) .nil)))))) (.cons (.ret (.call 188 (.val (.lc (.call 185 (.val (.ix (.v 0) (.v 3)) (.val (.ix (.v 1) (.v 3)) .nil))) (.n 3) (.rng1 (.v 2)) [3]) .nil))) .nil))))⟩
/-- _law_by (not of this law) -/
def F190 : Fn := ⟨"_law_by", ["one", "x"], ["one", "x", "each"], [.val, .val, .val], false, (.cons (.ret (.call 188 (.val (.lc (.call 187 (.val (.v 2) (.val (.v 1) .nil))) (.n 2) (.seq (.v 0)) [2]) .nil))) .nil)⟩
/-- _law_times (not of this law) -/
def F191 : Fn := ⟨"_law_times", ["one", "two"], ["one", "two", "found", "i", "j"], [.val, .val, .loc, .val, .val], false, (.cons (.ifs (.or (.cmp .eq (.bi .len (.cons (.v 0) .nil)) (.int 0)) (.cmp .eq (.bi .len (.cons (.v 1) .nil)) (.int 0))) (.cons (.ret (.tup .nil)) .nil) .nil) (.cons (.own 2 (.op .mul (.lst (.cons (.tup (.cons (.int 0) (.cons (.int 1) .nil))) .nil)) (.op .sub (.op .add (.bi .len (.cons (.v 0) .nil)) (.bi .len (.cons (.v 1) .nil))) (.int 1)))) (.cons (.for_ (.n 3) (.rng1 (.bi .len (.cons (.v 0) .nil))) (.cons (.for_ (.n 4) (.rng1 (.bi .len (.cons (.v 1) .nil))) (.cons (.sub false 2 (.op .add (.v 3) (.v 4)) (.call 185 (.val (.ix (.v 2) (.op .add (.v 3) (.v 4))) (.val (.call 187 (.val (.ix (.v 0) (.v 3)) (.val (.ix (.v 1) (.v 4)) .nil))) .nil)))) .nil)) .nil)) (.cons (.ret (.call 188 (.bor 2 .nil))) .nil))))⟩
/-- _law_is_int (not of this law) -/
def F193 : Fn := ⟨"_law_is_int", ["thing"], ["thing"], [.val], false, (.cons (.ret (.and (.isi "int" (.v 0)) (.not (.isi "bool" (.v 0))))) .nil)⟩
/-- _law_is_f (not of this law) -/
def F194 : Fn := ⟨"_law_is_f", ["thing"], ["thing"], [.val], false, (.cons (.ifs (.or (.not (.isi "tuple" (.v 0))) (.cmp .ne (.bi .len (.cons (.v 0) .nil)) (.int 2))) (.cons (.ret (.bl false)) .nil) .nil) (.cons (.ifs (.or (.not (.call 193 (.val (.ix (.v 0) (.int 0)) .nil))) (.not (.call 193 (.val (.ix (.v 0) (.int 1)) .nil)))) (.cons (.ret (.bl false)) .nil) .nil) (.cons (.ret (.and (.cmp .gt (.ix (.v 0) (.int 1)) (.int 0)) (.cmp .eq (.call 171 (.val (.ix (.v 0) (.int 0)) (.val (.ix (.v 0) (.int 1)) .nil))) (.int 1)))) .nil)))⟩
/-- _law_is_row (not of this law) -/
def F195 : Fn := ⟨"_law_is_row", ["thing"], ["thing", "each"], [.val, .val], false, (.cons (.ret (.and (.isi "tuple" (.v 0)) (.cmp .eq (.lcif (.v 1) (.n 1) (.seq (.v 0)) (.not (.call 194 (.val (.v 1) .nil))) [1]) (.lst .nil)))) .nil)⟩
/-- _law_is_poly (not of this law) -/
def F196 : Fn := ⟨"_law_is_poly", ["thing"], ["thing"], [.val], false, (.cons (.ret (.and (.call 195 (.val (.v 0) .nil)) (.or (.cmp .eq (.v 0) (.tup .nil)) (.cmp .ne (.ix (.ix (.v 0) (.neg (.int 1))) (.int 0)) (.int 0))))) .nil)⟩
/-- _law_near (not of this law) -/
def F197 : Fn := ⟨"_law_near", ["vein", "x"], ["vein", "x", "way"], [.io, .val, .val], false, (.cons (.asg (.n 2) (.call 169 (.io 0 (.val (.int 9) .nil)))) (.cons (.ifs (.cmp .lt (.v 2) (.int 6)) (.cons (.ret (.call 185 (.val (.v 1) (.val (.ix (.lst (.cons (.tup (.cons (.int 1) (.cons (.int 1) .nil))) (.cons (.tup (.cons (.neg (.int 1)) (.cons (.int 1) .nil))) (.cons (.tup (.cons (.int 1) (.cons (.int 11) .nil))) (.cons (.tup (.cons (.neg (.int 1)) (.cons (.int 11) .nil))) (.cons (.tup (.cons (.int 0) (.cons (.int 1) .nil))) (.cons (.tup (.cons (.op .pow (.int 10) (.int 6)) (.cons (.int 1) .nil))) .nil))))))) (.v 2)) .nil)))) .nil) .nil) (.cons (.ifs (.cmp .eq (.v 2) (.int 6)) (.cons (.ret (.tup (.cons (.op .mul (.int 3) (.ix (.v 1) (.int 0))) (.cons (.op .mul (.int 3) (.ix (.v 1) (.int 1))) .nil)))) .nil) .nil) (.cons (.ifs (.cmp .eq (.v 2) (.int 7)) (.cons (.ret (.tup (.cons (.op .sub (.int 0) (.ix (.v 1) (.int 0))) (.cons (.op .sub (.int 0) (.ix (.v 1) (.int 1))) .nil)))) .nil) .nil) (.cons (.ret (.call 170 (.io 0 (.val (.lst (.cons (.bi .list (.cons (.v 1) .nil)) (.cons (.op .add (.v 1) (.tup (.cons (.int 1) .nil))) (.cons (.sl (.v 1) .no (.so (.int 1))) (.cons (.tup (.cons (.ix (.v 1) (.int 0)) (.cons (.bl true) .nil))) (.cons (.tup (.cons (.ix (.v 1) (.int 0)) (.cons (.int 0) .nil))) (.cons (.tup (.cons (.ix (.v 1) (.int 0)) (.cons (.bi .str (.cons (.ix (.v 1) (.int 1)) .nil)) .nil))) .nil))))))) .nil)))) .nil)))))⟩
/-- _law_bent (not of this law) -/
def F198 : Fn := ⟨"_law_bent", ["vein", "thing", "deep"], ["vein", "thing", "deep", "other_one", "at", "way"], [.io, .val, .val, .val, .val, .val], false, (.cons (.ifs (.or (.not (.isi "tuple" (.v 1))) (.or (.cmp .eq (.v 2) (.int 0)) (.cmp .eq (.v 1) (.tup .nil)))) (.cons (.ret (.call 174 (.io 0 .nil))) .nil) .nil) (.cons (.ifs (.call 194 (.val (.v 1) .nil)) (.cons (.ret (.call 197 (.io 0 (.val (.v 1) .nil)))) .nil) .nil) (.cons (.par [(4, false), (5, false)] (.cons (.call 169 (.io 0 (.val (.bi .len (.cons (.v 1) .nil)) .nil))) (.cons (.call 169 (.io 0 (.val (.int 10) .nil))) .nil))) (.cons (.ifs (.cmp .gt (.v 5) (.int 4)) (.cons (.ret (.op .add (.op .add (.sl (.v 1) .no (.so (.v 4))) (.tup (.cons (.call 198 (.io 0 (.val (.ix (.v 1) (.v 4)) (.val (.op .sub (.v 2) (.int 1)) .nil)))) .nil))) (.sl (.v 1) (.so (.op .add (.v 4) (.int 1))) .no))) .nil) .nil) (.cons (.asg (.n 3) (.call 170 (.io 0 (.val (.lst (.cons (.call 174 (.io 0 .nil)) (.cons (.call 173 (.io 0 .nil)) (.cons (.ix (.v 1) (.int 0)) .nil)))) .nil)))) (.cons (.ifs (.cmp .eq (.v 5) (.int 0)) (.cons (.ret (.op .add (.sl (.v 1) .no (.so (.v 4))) (.sl (.v 1) (.so (.op .add (.v 4) (.int 1))) .no))) .nil) .nil) (.cons (.ifs (.cmp .eq (.v 5) (.int 1)) (.cons (.ret (.op .add (.sl (.v 1) .no (.so (.op .add (.v 4) (.int 1)))) (.sl (.v 1) (.so (.v 4)) .no))) .nil) .nil) (.cons (.ifs (.cmp .eq (.v 5) (.int 2)) (.cons (.ret (.op .add (.op .add (.sl (.v 1) .no (.so (.v 4))) (.tup (.cons (.v 3) .nil))) (.sl (.v 1) (.so (.op .add (.v 4) (.int 1))) .no))) .nil) .nil) (.cons (.ret (.ife (.cmp .eq (.v 5) (.int 3)) (.op .add (.v 1) (.tup (.cons (.v 3) .nil))) (.bi .list (.cons (.v 1) .nil)))) .nil)))))))))⟩
/-- _law_anys (not of this law) -/
def F199 : Fn := ⟨"_law_anys", ["vein", "many"], ["vein", "many", "found", "turn"], [.io, .val, .loc, .val], true, (.cons (.own 2 (.lst .nil)) (.cons (.for_ (.n 3) (.rng1 (.v 1)) (.cons (.app 2 (.call 173 (.io 0 .nil))) .nil)) (.cons (.retO 2) .nil)))⟩
/-- _law_some (not of this law) -/
def F206 : Fn := ⟨"_law_some", ["vein"], ["vein", "over"], [.io, .val], false, (.cons (.asg (.n 1) (.op .add (.int 1) (.call 169 (.io 0 (.val (.call 170 (.io 0 (.val (.lst (.cons (.int 2) (.cons (.int 2) (.cons (.int 4) (.cons (.int 4) (.cons (.int 30) .nil)))))) .nil))) .nil))))) (.cons (.ret (.call 172 (.val (.ife (.cmp .eq (.call 169 (.io 0 (.val (.int 2) .nil))) (.int 0)) (.v 1) (.op .sub (.int 0) (.v 1))) (.val (.call 170 (.io 0 (.val (.lst (.cons (.int 1) (.cons (.int 1) (.cons (.int 1) (.cons (.int 1) (.cons (.int 2) (.cons (.int 2) (.cons (.int 3) (.cons (.int 5) (.cons (.int 12) .nil)))))))))) .nil))) .nil)))) .nil))⟩
/-- is_rule (not of this law) -/
def F256 : Fn := ⟨"is_rule", ["value"], ["value"], [.val], false, (.cons (.ret (.call 61 (.val (.v 0) .nil))) .nil)⟩
/-- _law_is_rule (not of this law) -/
def F257 : Fn := ⟨"_law_is_rule", ["thing"], ["thing"], [.val], false, (.cons (.ifs (.or (.not (.isi "tuple" (.v 0))) (.cmp .ne (.bi .len (.cons (.v 0) .nil)) (.int 2))) (.cons (.ret (.bl false)) .nil) .nil) (.cons (.ifs (.or (.not (.call 195 (.val (.ix (.v 0) (.int 0)) .nil))) (.not (.call 195 (.val (.ix (.v 0) (.int 1)) .nil)))) (.cons (.ret (.bl false)) .nil) .nil) (.cons (.ret (.and (.cmp .eq (.bi .len (.cons (.ix (.v 0) (.int 0)) .nil)) (.bi .len (.cons (.ix (.v 0) (.int 1)) .nil))) (.and (.chn .le .le (.int 2) (.bi .len (.cons (.ix (.v 0) (.int 0)) .nil)) (.int 9)) (.cmp .ne (.ix (.ix (.ix (.v 0) (.int 0)) (.neg (.int 1))) (.int 0)) (.int 0))))) .nil)))⟩
/-- _law_steps (not of this law) -/
def F258 : Fn := ⟨"_law_steps", ["vein"], ["vein"], [.io], false, (.cons (.ret (.call 170 (.io 0 (.val (.lst (.cons (.int 1) (.cons (.int 1) (.cons (.int 2) (.cons (.int 2) (.cons (.int 2) (.cons (.int 3) (.cons (.int 3) (.cons (.int 4) (.cons (.int 5) (.cons (.int 8) .nil))))))))))) .nil)))) .nil)⟩
/-- _law_rule (not of this law) -/
def F259 : Fn := ⟨"_law_rule", ["vein"], ["vein", "up", "first"], [.io, .val, .val], false, (.cons (.asg (.n 1) (.call 258 (.io 0 .nil))) (.cons (.asg (.n 2) (.op .add (.call 199 (.io 0 (.val (.v 1) .nil))) (.lst (.cons (.call 206 (.io 0 .nil)) .nil)))) (.cons (.ret (.tup (.cons (.bi .tuple (.cons (.v 2) .nil)) (.cons (.bi .tuple (.cons (.call 199 (.io 0 (.val (.op .add (.v 1) (.int 1)) .nil))) .nil)) .nil)))) .nil)))⟩
/-- _law_sum (not of this law) -/
def F273 : Fn := ⟨"_law_sum", ["some"], ["some", "found", "each"], [.val, .val, .val], false, (.cons (.asg (.n 1) (.tup (.cons (.int 0) (.cons (.int 1) .nil)))) (.cons (.for_ (.n 2) (.seq (.v 0)) (.cons (.asg (.n 1) (.call 185 (.val (.v 1) (.val (.v 2) .nil)))) .nil)) (.cons (.ret (.v 1)) .nil)))⟩
abbrev hP : Program := PySem.Challenge.pw_legsteps_k26_whole_adams_moulton_backwar
def top (i : Nat) : Stmt := hP.main.body.getD i (.Pass ⟨0, 0, 0, 0⟩)
def tbl : List (Nat × Fn) := ([(1, F1), (2, F2), (3, F3), (4, F4), (5, F5), (8, F8), (9, F9), (10, F10), (11, F11), (12, F12), (13, F13), (14, F14), (25, F25), (26, F26), (27, F27), (28, F28), (30, F30), (35, F35), (300, F300), (301, F301), (302, F302), (303, F303), (119, F119), (304, F304), (312, F312), (318, F318), (61, F61), (66, F66), (67, F67), (75, F75)] : List (Nat × Fn)) ++ ([(76, F76), (77, F77), (313, F313), (319, F319), (320, F320), (321, F321), (150, F150), (282, F282), (168, F168), (169, F169), (171, F171), (172, F172), (185, F185), (186, F186), (187, F187), (322, F322), (323, F323), (324, F324), (325, F325), (326, F326)] : List (Nat × Fn))
def gt : GT := [(5, ("MOST_STEPS" : Str), (.int 8)), (1, ("ONE" : Str), (.tup [(.int 1), (.int 1)])), (0, ("ZERO" : Str), (.tup [(.int 0), (.int 1)]))]
def dfs0 : List He.DefD := [mkD F1 (top 2), mkD F2 (top 3), mkD F3 (top 4), mkD F4 (top 5), mkD F5 (top 6), mkD F8 (top 7), mkD F9 (top 11), mkD F10 (top 12), mkD F11 (top 13), mkD F12 (top 14), mkD F13 (top 15), mkD F14 (top 16), mkD F25 (top 18), mkD F26 (top 19), mkD F27 (top 20), mkD F28 (top 21), mkD F30 (top 22), mkD F35 (top 23), mkD F300 (top 25), mkD F301 (top 26), mkD F302 (top 27), mkD F303 (top 28)]
def fas0 : List He.Fa := [.glo "is_whole", .glo "are_wholes", .glo "is_between", .glo "divisor_of", .glo "is_reduced", .glo "raised", .glo "is_ratio", .glo "ratio_with", .glo "ratio_sum", .glo "ratio_less", .glo "ratio_product", .glo "ratio_over", .glo "are_ratios", .glo "is_parts", .glo "without_noughts", .glo "parts_sum", .glo "parts_product", .glo "sum_of_parts", .glo "moved_parts", .glo "log_numbers", .glo "back_numbers", .glo "cut_product"]
def gfL0 : List Gf := []
def dfs1 : List He.DefD := [mkD F119 (top 29), mkD F304 (top 30), mkD F312 (top 31), mkD F318 (top 32), mkD F61 (top 42), mkD F66 (top 43), mkD F67 (top 44), mkD F75 (top 46), mkD F76 (top 47), mkD F77 (top 48), mkD F313 (top 50), mkD F319 (top 51), mkD F320 (top 52), mkD F321 (top 53), mkD F150 (top 55), mkD F282 (top 56), mkD F168 (top 58), mkD F169 (top 59), mkD F171 (top 60), mkD F172 (top 61), mkD F185 (top 62), mkD F186 (top 63)]
def fas1 : List He.Fa := [.glo "with_noughts", .glo "best_rule", .glo "first_for", .glo "last_step", .glo "is_ruled", .glo "defect", .glo "order_told", .glo "check_some_polynomial", .glo "check_rule", .glo "check_number", .glo "best_first", .glo "adams", .glo "moulton", .glo "backward", .glo "order_of", .glo "error_number", .glo "_law_vein", .glo "_law_chip", .glo "_law_shared", .glo "_law_f", .glo "_law_add", .glo "_law_sub"]
def gfL1 : List Gf := []
def dfs2 : List He.DefD := [mkD F187 (top 64), mkD F322 (top 65), mkD F323 (top 66), mkD F324 (top 67), mkD F325 (top 68), mkD F326 (top 69)]
def fas2 : List He.Fa := [.glo "_law_mul", .glo "_law_over", .glo "_law_gammas", .glo "_law_by_differences", .glo "_law_right", .glo "law", .free "abs", .free "all", .free "bool", .free "enumerate", .free "int", .free "isinstance", .free "len", .free "list", .free "max", .free "min", .free "range", .free "repr", .free "reversed", .free "sum", .free "tuple", .free "zip"]
def gfL2 : List Gf := [.val "MOST_STEPS" (.int 8), .val "ONE" (.tup [(.int 1), (.int 1)]), .val "ZERO" (.tup [(.int 0), (.int 1)]), .blt "gcd" "math.gcd"]
def dfs : List He.DefD := dfs0 ++ (dfs1 ++ (dfs2))
def fas : List He.Fa := fas0 ++ (fas1 ++ (fas2))
def gfL : List Gf := gfL0 ++ (gfL1 ++ (gfL2))
def Pr : Prg := prgOf tbl gt
abbrev hR : PySem.W.OpenRow := PySem.W.OpenLaw.row PySem.Challenge.rw_legsteps_k26_whole_adams_moulton_backwar
abbrev hk : PySem.W.Hook := hookL 4 fas gfL dfs
def ob (s : PySem.W.SharedT) : He.AlD × Bool := obsL 4 fas gfL dfs (HandSHeadRun.getT s)
theorem ob_eq (s : PySem.W.SharedT) : ob s = hk.obs s.abs := obsL_eq (HandSHeadRun.getT_eq s)
def loose : List PySem.Str := (["is_whole", "are_wholes", "is_between", "divisor_of", "is_reduced", "raised", "is_ratio", "ratio_with", "ratio_sum", "ratio_less", "ratio_product", "ratio_over", "are_ratios", "is_parts", "without_noughts", "parts_sum", "parts_product", "sum_of_parts", "moved_parts", "log_numbers", "back_numbers", "cut_product", "with_noughts", "best_rule", "first_for", "last_step", "is_ruled", "defect", "order_told", "check_some_polynomial"] : List PySem.Str) ++ (["check_rule", "check_number", "best_first", "adams", "moulton", "backward", "order_of", "error_number", "_law_vein", "_law_chip", "_law_shared", "_law_f", "_law_add", "_law_sub", "_law_mul", "_law_over", "_law_gammas", "_law_by_differences", "_law_right", "ZERO", "ONE", "MOST_STEPS", "StepError", "InvalidNumber", "InvalidPolynomial", "InvalidRule", "TooManySteps", "LostStep"] : List PySem.Str)
abbrev hV : Program := PySem.W.view hR.prog [0, 69]
theorem run_see (w : World) : Option.map (fun x => (HandSHeadRun.looksF hR.prog x.fst.heap x.snd.abs, HandSHeadRun.seenQ hV loose (PySem.importedModules hR.prog.main.body) (fun s => PySem.W.xlAt hV [] s && PySem.W.recOk hR.records s) x.snd.abs)) (HandSHeadRun.wholeF (fun p => HandSHeadRun.stepQ (HandSHeadRun.denQ HandSHeadRun.tabQ) p w) HandSHeadRun.fenceQ 6000 hR.prog) = some (true, PySem.W.openGood hV loose) := by kernel_rfl
theorem run_ob0 (w : World) : Option.map (fun x => obsL 4 fas0 gfL0 dfs0 (HandSHeadRun.getT x.snd)) (HandSHeadRun.wholeF (fun p => HandSHeadRun.stepQ (HandSHeadRun.denQ HandSHeadRun.tabQ) p w) HandSHeadRun.fenceQ 6000 hR.prog) = some (He.valD dfs0, true) := by kernel_rfl
theorem run_ob1 (w : World) : Option.map (fun x => obsL 4 fas1 gfL1 dfs1 (HandSHeadRun.getT x.snd)) (HandSHeadRun.wholeF (fun p => HandSHeadRun.stepQ (HandSHeadRun.denQ HandSHeadRun.tabQ) p w) HandSHeadRun.fenceQ 6000 hR.prog) = some (He.valD dfs1, true) := by kernel_rfl
theorem run_ob2 (w : World) : Option.map (fun x => obsL 4 fas2 gfL2 dfs2 (HandSHeadRun.getT x.snd)) (HandSHeadRun.wholeF (fun p => HandSHeadRun.stepQ (HandSHeadRun.denQ HandSHeadRun.tabQ) p w) HandSHeadRun.fenceQ 6000 hR.prog) = some (He.valD dfs2, true) := by kernel_rfl
theorem head_run (w : World) : HandSHeadRun.RunEqI hR hV hk ob 6000 loose w := trip_of (run_see w) (obs_cat (t := fun x : _ × PySem.W.SharedT => HandSHeadRun.getT x.snd) (run_ob0 w) (obs_cat (t := fun x : _ × PySem.W.SharedT => HandSHeadRun.getT x.snd) (run_ob1 w) (run_ob2 w)))

end LS

/-! LsC: how data stands in the abstract heap; the state of a def. -/
namespace LS
open PySem PySem.Spec PyProof.Rows L2

abbrev AS := Addr → Prop
def noH : Hp := fun _ => none
def TupAt (K : PySem.W.Frag) (O : AS) (H : Hp) (a : Addr) (xs : List V) : Prop := (Rd H a (.tup xs) ∧ ¬ O a) ∨ SqT K noH a xs
def ScrAt (K : PySem.W.Frag) (O : AS) (H : Hp) (a : Addr) (xs : List V) : Prop := (Rd H a (.lst xs) ∧ ¬ O a) ∨ SqL K noH a xs
def LstAt (O : AS) (H : Hp) (a : Addr) (xs : List V) : Prop := H a = some (.lst xs) ∧ ¬ O a

mutual
def Rep (K : PySem.W.Frag) (O : AS) (H : Hp) : D → V → Prop
  | .non, v => v = .non
  | .bl b, v => v = .bl b
  | .int i, v => v = .int i
  | .str x, v => v = .str x
  | .tup l, v => ∃ a xs, v = .ref a ∧ TupAt K O H a xs ∧ Reps K O H l xs
  | .lst l, v => ∃ a xs, v = .ref a ∧ LstAt O H a xs ∧ Reps K O H l xs
  | .dic ks l, v => ∃ (a : Addr) (kvs : List (Key × V)), v = .ref a ∧ H a = some (.dK kvs) ∧ ¬ O a ∧ kvs.map (·.1) = ks ∧ Reps K O H l (kvs.map (·.2))
  | .ins _ _, _ => False
  | .scr l, v => ∃ a, v = .ref a ∧ ScrAt K O H a (l.map V.int)
def Reps (K : PySem.W.Frag) (O : AS) (H : Hp) : List D → List V → Prop
  | [], xs => xs = []
  | d :: r, xs => ∃ v vs, xs = v :: vs ∧ Rep K O H d v ∧ Reps K O H r vs
end

section
variable {K : PySem.W.Frag} {O O' : AS} {H H' : Hp} {a : Addr} {xs : List V}
theorem noRd {u : HO} : ¬ Rd noH a u := fun h => by
  rcases h with h | ⟨o, h⟩ <;> cases h
theorem sqT_noH (h : SqT K noH a xs) : SqT K H a xs := by
  rcases h with h | h
  · exact (noRd h).elim
  · exact .inr h
theorem sqL_noH (h : SqL K noH a xs) : SqL K H a xs := by
  rcases h with h | h
  · exact (noRd h).elim
  · exact .inr h
theorem TupAt.sq (h : TupAt K O H a xs) : SqT K H a xs := by
  rcases h with ⟨h, _⟩ | h
  · exact .inl h
  · exact sqT_noH h
theorem LstAt.sq (h : LstAt O H a xs) : SqL K H a xs := .inl (.inl h.1)
theorem ScrAt.sq (h : ScrAt K O H a xs) : SqL K H a xs := by
  rcases h with ⟨h, _⟩ | h
  · exact .inl h
  · exact sqL_noH h
/-- what a step leaves: all that is not in O, and it is not in O' -/
def Stays (O O' : AS) (H H' : Hp) : Prop := ∀ b o, H b = some o → ¬ O b → H' b = some o ∧ ¬ O' b
theorem Stays.rd (k : Stays O O' H H') {u : HO} (h : Rd H a u) (n : ¬ O a) : Rd H' a u ∧ ¬ O' a := by
  rcases h with h | ⟨o, h⟩
  · exact ⟨.inl (k _ _ h n).1, (k _ _ h n).2⟩
  · exact ⟨.inr ⟨o, (k _ _ h n).1⟩, (k _ _ h n).2⟩
theorem TupAt.mono (k : Stays O O' H H') (h : TupAt K O H a xs) : TupAt K O' H' a xs := by
  rcases h with ⟨h, n⟩ | h
  · exact .inl (k.rd h n)
  · exact .inr h
theorem ScrAt.mono (k : Stays O O' H H') (h : ScrAt K O H a xs) : ScrAt K O' H' a xs := by
  rcases h with ⟨h, n⟩ | h
  · exact .inl (k.rd h n)
  · exact .inr h
theorem LstAt.mono (k : Stays O O' H H') (h : LstAt O H a xs) : LstAt O' H' a xs := k _ _ h.1 h.2
end
section
variable {K : PySem.W.Frag} {O O' : AS} {H H' : Hp}
mutual
theorem Rep.mono (k : Stays O O' H H') : ∀ {d : D} {v : V}, Rep K O H d v → Rep K O' H' d v
  | .non, _, h => by unfold Rep at *; exact h
  | .bl _, _, h => by unfold Rep at *; exact h
  | .int _, _, h => by unfold Rep at *; exact h
  | .str _, _, h => by unfold Rep at *; exact h
  | .tup l, _, h => by
    unfold Rep at *
    obtain ⟨a, xs, e, p, q⟩ := h
    exact ⟨a, xs, e, p.mono k, Reps.mono k q⟩
  | .lst l, _, h => by
    unfold Rep at *
    obtain ⟨a, xs, e, p, q⟩ := h
    exact ⟨a, xs, e, p.mono k, Reps.mono k q⟩
  | .dic ks l, _, h => by
    unfold Rep at *
    obtain ⟨a, kvs, e, p, n, m, q⟩ := h
    exact ⟨a, kvs, e, (k _ _ p n).1, (k _ _ p n).2, m, Reps.mono k q⟩
  | .ins _ _, _, h => by unfold Rep at h; exact h.elim
  | .scr _, _, h => by
    unfold Rep at *
    obtain ⟨a, e, p⟩ := h
    exact ⟨a, e, p.mono k⟩
theorem Reps.mono (k : Stays O O' H H') : ∀ {l : List D} {xs : List V}, Reps K O H l xs → Reps K O' H' l xs
  | [], _, h => by unfold Reps at *; exact h
  | d :: r, _, h => by
    unfold Reps at *
    obtain ⟨v, vs, e, p, q⟩ := h
    exact ⟨v, vs, e, Rep.mono k p, Reps.mono k q⟩
end
mutual
/-- without lists in it: whatever is owned -/
theorem Rep.flat (k : ∀ b, O' b → ∃ xs, H b = some (.lst xs)) : ∀ {d : D} {v : V}, D.flat d = true → Rep K O H d v → Rep K O' H d v
  | .non, _, _, h => by unfold Rep at *; exact h
  | .bl _, _, _, h => by unfold Rep at *; exact h
  | .int _, _, _, h => by unfold Rep at *; exact h
  | .str _, _, _, h => by unfold Rep at *; exact h
  | .tup l, _, f, h => by
    unfold D.flat at f
    unfold Rep at *
    obtain ⟨a, xs, e, p, q⟩ := h
    refine ⟨a, xs, e, ?_, Reps.flat k f q⟩
    rcases p with ⟨p, _⟩ | p
    · refine .inl ⟨p, fun n => ?_⟩
      obtain ⟨ys, e2⟩ := k _ n
      rcases p with p | ⟨o, p⟩
      · rw [e2] at p; cases p
      · rw [e2] at p; cases p
    · exact .inr p
  | .lst l, _, f, _ => by unfold D.flat at f; cases f
  | .dic ks l, _, f, _ => by unfold D.flat at f; cases f
  | .ins _ _, _, f, _ => by unfold D.flat at f; cases f
  | .scr _, _, f, _ => by unfold D.flat at f; cases f
theorem Reps.flat (k : ∀ b, O' b → ∃ xs, H b = some (.lst xs)) : ∀ {l : List D} {xs : List V}, D.flatL l = true → Reps K O H l xs → Reps K O' H l xs
  | [], _, _, h => by unfold Reps at *; exact h
  | d :: r, _, f, h => by
    unfold D.flatL at f
    rw [Bool.and_eq_true] at f
    unfold Reps at *
    obtain ⟨v, vs, e, p, q⟩ := h
    exact ⟨v, vs, e, Rep.flat k f.1 p, Reps.flat k f.2 q⟩
end
theorem Reps.len : ∀ {l : List D} {xs : List V}, Reps K O H l xs → xs.length = l.length
  | [], _, h => by unfold Reps at h; subst h; rfl
  | d :: r, _, h => by
    unfold Reps at h
    obtain ⟨v, vs, e, _, q⟩ := h
    subst e
    simp only [List.length_cons, Reps.len q]
theorem Reps.get : ∀ {l : List D} {xs : List V} {i : Nat} {d : D}, Reps K O H l xs → l[i]? = some d → ∃ v, xs[i]? = some v ∧ Rep K O H d v
  | [], _, _, _, _, e => by simp at e
  | d :: r, _, 0, _, h, e => by
    unfold Reps at h
    obtain ⟨v, vs, e2, p, _⟩ := h
    subst e2
    simp at e
    subst e
    exact ⟨v, rfl, p⟩
  | d :: r, _, i + 1, _, h, e => by
    unfold Reps at h
    obtain ⟨v, vs, e2, _, q⟩ := h
    subst e2
    obtain ⟨v', h1, h2⟩ := Reps.get (i := i) q (by simpa using e)
    exact ⟨v', by simpa using h1, h2⟩
theorem Reps.append : ∀ {l m : List D} {xs ys : List V}, Reps K O H l xs → Reps K O H m ys → Reps K O H (l ++ m) (xs ++ ys)
  | [], _, _, _, h, q => by unfold Reps at h; subst h; exact q
  | d :: r, _, _, _, h, q => by
    unfold Reps at h
    obtain ⟨v, vs, e, p, h2⟩ := h
    subst e
    rw [List.cons_append, List.cons_append]
    unfold Reps
    exact ⟨v, _, rfl, p, Reps.append h2 q⟩
theorem Reps.one {d : D} {v : V} (h : Rep K O H d v) : Reps K O H [d] [v] := by
  unfold Reps
  exact ⟨v, [], rfl, h, by unfold Reps; rfl⟩
theorem Reps.nil : Reps K O H [] [] := by unfold Reps; rfl
theorem Reps.cons {d : D} {v : V} {l : List D} {xs : List V} (h : Rep K O H d v) (q : Reps K O H l xs) : Reps K O H (d :: l) (v :: xs) := by
  unfold Reps
  exact ⟨v, xs, rfl, h, q⟩
theorem Reps.uncons {d : D} {v : V} {l : List D} {xs : List V} (h : Reps K O H (d :: l) (v :: xs)) : Rep K O H d v ∧ Reps K O H l xs := by
  unfold Reps at h
  obtain ⟨v', vs, e, p, q⟩ := h
  cases e
  exact ⟨p, q⟩
theorem Reps.take : ∀ (n : Nat) {l : List D} {xs : List V}, Reps K O H l xs → Reps K O H (l.take n) (xs.take n)
  | 0, _, _, _ => by rw [List.take_zero, List.take_zero]; exact .nil
  | n + 1, [], _, h => by unfold Reps at h; subst h; exact .nil
  | n + 1, d :: r, _, h => by
    unfold Reps at h
    obtain ⟨v, vs, e, p, q⟩ := h
    subst e
    rw [List.take_succ_cons, List.take_succ_cons]
    exact .cons p (Reps.take n q)
theorem Reps.drop : ∀ (n : Nat) {l : List D} {xs : List V}, Reps K O H l xs → Reps K O H (l.drop n) (xs.drop n)
  | 0, _, _, h => by rw [List.drop_zero, List.drop_zero]; exact h
  | n + 1, [], _, h => by unfold Reps at h; subst h; exact .nil
  | n + 1, d :: r, _, h => by
    unfold Reps at h
    obtain ⟨v, vs, e, p, q⟩ := h
    subst e
    rw [List.drop_succ_cons, List.drop_succ_cons]
    exact Reps.drop n q
theorem Reps.reverse : ∀ {l : List D} {xs : List V}, Reps K O H l xs → Reps K O H l.reverse xs.reverse
  | [], _, h => by unfold Reps at h; subst h; exact .nil
  | d :: r, _, h => by
    unfold Reps at h
    obtain ⟨v, vs, e, p, q⟩ := h
    subst e
    rw [List.reverse_cons, List.reverse_cons]
    exact .append (Reps.reverse q) (.one p)
theorem Reps.set : ∀ {l : List D} {xs : List V} (i : Nat) {d : D} {v : V}, Rep K O H d v → Reps K O H l xs → Reps K O H (l.set i d) (xs.set i v)
  | [], _, _, _, _, _, h => by unfold Reps at h; subst h; exact .nil
  | _ :: _, _, 0, _, _, hp, h => by
    unfold Reps at h
    obtain ⟨v, vs, e, p, q⟩ := h
    subst e
    exact .cons hp q
  | _ :: _, _, i + 1, _, _, hp, h => by
    unfold Reps at h
    obtain ⟨v, vs, e, p, q⟩ := h
    subst e
    rw [List.set_cons_succ, List.set_cons_succ]
    exact .cons p (Reps.set i hp q)
theorem Reps.rep {l : List D} {xs : List V} (h : Reps K O H l xs) : ∀ n : Nat, Reps K O H (List.replicate n l).flatten (List.replicate n xs).flatten
  | 0 => .nil
  | n + 1 => by
    rw [List.replicate_succ, List.replicate_succ, List.flatten_cons, List.flatten_cons]
    exact h.append (Reps.rep h n)
theorem Reps.dropLast : ∀ {l : List D} {xs : List V}, Reps K O H l xs → Reps K O H l.dropLast xs.dropLast := fun {l xs} h => by
  rw [List.dropLast_eq_take, List.dropLast_eq_take, h.len]
  exact h.take _
theorem Reps.ints : ∀ {ns : List Int}, Reps K O H (ns.map D.int) (ns.map V.int)
  | [] => .nil
  | n :: r => .cons (by unfold Rep; rfl) (Reps.ints)
theorem ints_of : ∀ {l : List D} {ns : List Int} {xs : List V}, intsD l = some ns → Reps K O H l xs → l = ns.map D.int ∧ xs = ns.map V.int
  | [], ns, _, e, h => by
    unfold intsD at e
    unfold Reps at h
    cases e
    exact ⟨rfl, h⟩
  | .int i :: r, ns, _, e, h => by
    unfold intsD at e
    obtain ⟨ms, e1, e2⟩ := Option.map_eq_some_iff.mp e
    subst e2
    unfold Reps at h
    obtain ⟨v, vs, e3, p, q⟩ := h
    subst e3
    unfold Rep at p
    subst p
    obtain ⟨a, b⟩ := ints_of e1 q
    subst a b
    exact ⟨rfl, rfl⟩
  | .non :: r, ns, _, e, h => by unfold intsD at e; cases e
  | .bl _ :: r, ns, _, e, h => by unfold intsD at e; cases e
  | .str _ :: r, ns, _, e, h => by unfold intsD at e; cases e
  | .tup _ :: r, ns, _, e, h => by unfold intsD at e; cases e
  | .lst _ :: r, ns, _, e, h => by unfold intsD at e; cases e
  | .dic _ _ :: r, ns, _, e, h => by unfold intsD at e; cases e
  | .ins _ _ :: r, ns, _, e, h => by unfold intsD at e; cases e
  | .scr _ :: r, ns, _, e, h => by unfold intsD at e; cases e
theorem bls_of : ∀ {l : List D} {ns : List Bool} {xs : List V}, blsD l = some ns → Reps K O H l xs → xs = ns.map V.bl
  | [], ns, _, e, h => by
    unfold blsD at e
    unfold Reps at h
    cases e
    exact h
  | .bl i :: r, ns, _, e, h => by
    unfold blsD at e
    obtain ⟨ms, e1, e2⟩ := Option.map_eq_some_iff.mp e
    subst e2
    unfold Reps at h
    obtain ⟨v, vs, e3, p, q⟩ := h
    subst e3
    unfold Rep at p
    subst p
    rw [bls_of e1 q]
    rfl
  | .non :: r, ns, _, e, h => by unfold blsD at e; cases e
  | .int _ :: r, ns, _, e, h => by unfold blsD at e; cases e
  | .str _ :: r, ns, _, e, h => by unfold blsD at e; cases e
  | .tup _ :: r, ns, _, e, h => by unfold blsD at e; cases e
  | .lst _ :: r, ns, _, e, h => by unfold blsD at e; cases e
  | .dic _ _ :: r, ns, _, e, h => by unfold blsD at e; cases e
  | .ins _ _ :: r, ns, _, e, h => by unfold blsD at e; cases e
  | .scr _ :: r, ns, _, e, h => by unfold blsD at e; cases e
/-- a value's address, if it has one, is tracked and not owned, or stands in the written part -/
theorem Rep.scal_int {i : Int} {v : V} (h : Rep K O H (.int i) v) : v = .int i := by unfold Rep at h; exact h
theorem Rep.scal_bl {i : Bool} {v : V} (h : Rep K O H (.bl i) v) : v = .bl i := by unfold Rep at h; exact h
end

/-! ### the state of a def -/
def isOwn (kd : List Kind) (i : Nat) : Prop := kd[i]? = some .loc ∨ kd[i]? = some .io
def At (σ : L2.St) (i : Nat) (a : Addr) : Prop := σ[i]? = some (some (.ref a))
def Own (kd : List Kind) (O0 : AS) (σ : L2.St) : AS := fun a => O0 a ∨ ∃ i, isOwn kd i ∧ At σ i a
def Io (kd : List Kind) (σ : L2.St) : AS := fun a => ∃ i, kd[i]? = some .io ∧ At σ i a
structure SR (K : PySem.W.Frag) (kd : List Kind) (O0 : AS) (H0 : Hp) (env : EnD) (σ : L2.St) (H : Hp) : Prop where
  le : env.length = kd.length
  ls : σ.length = kd.length
  fr : ∀ b o, H0 b = some o → ¬ Io kd σ b → H b = some o
  o0 : ∀ b, O0 b → ∃ xs, H0 b = some (.lst xs)
  vl : ∀ (i : Nat) (d : D), kd[i]? = some .val → env[i]? = some (some d) → ∃ v, σ[i]? = some (some v) ∧ Rep K (Own kd O0 σ) H d v
  lc : ∀ (i : Nat) (d : D), kd[i]? = some .loc → env[i]? = some (some d) → ∃ (a : Addr) (l : List D) (xs : List V), d = .lst l ∧ At σ i a ∧ H a = some (.lst xs) ∧ H0 a = none ∧ Reps K (Own kd O0 σ) H l xs
  io : ∀ (i : Nat) (d : D), kd[i]? = some .io → env[i]? = some (some d) → ∃ (a : Addr) (ns : List Int), d = .lst (ns.map D.int) ∧ At σ i a ∧ H a = some (.lst (ns.map V.int))
  dj : ∀ (i j : Nat) (a : Addr), isOwn kd i → isOwn kd j → At σ i a → At σ j a → i = j
  ow : ∀ (i : Nat) (v : V), isOwn kd i → σ[i]? = some (some v) → ∃ d, env[i]? = some (some d)
section
variable {K : PySem.W.Frag} {kd : List Kind} {O0 : AS} {H0 H H' : Hp} {env : EnD} {σ : L2.St}
theorem At.inj {i : Nat} {a b : Addr} (h : At σ i a) (h' : At σ i b) : a = b := by
  unfold At at h h'
  rw [h] at h'
  cases h'
  rfl
/-- the owned ones are tracked lists -/
theorem SR.olst (s : SR K kd O0 H0 env σ H) : ∀ b, Own kd O0 σ b → ∃ xs, H b = some (.lst xs) := by
  intro b h
  have own : ∀ i, isOwn kd i → At σ i b → ∃ xs, H b = some (.lst xs) := by
    intro i ho ha
    obtain ⟨d, hd⟩ := s.ow i _ ho ha
    rcases ho with ho | ho
    · obtain ⟨a, l, xs, _, h1, h2, _⟩ := s.lc i d ho hd
      cases h1.inj ha
      exact ⟨xs, h2⟩
    · obtain ⟨a, ns, _, h1, h2⟩ := s.io i d ho hd
      cases h1.inj ha
      exact ⟨_, h2⟩
  rcases h with h | ⟨i, ho, ha⟩
  · obtain ⟨xs, e⟩ := s.o0 b h
    by_cases hi : Io kd σ b
    · obtain ⟨i, hk, ha⟩ := hi
      exact own i (.inr hk) ha
    · exact ⟨xs, s.fr b _ e hi⟩
  · exact own i ho ha
theorem io_own {b : Addr} (h : Io kd σ b) : Own kd O0 σ b := let ⟨i, k, a⟩ := h; .inr ⟨i, .inr k, a⟩
/-- what an expression may change: nothing but the changed lists -/
def Kp (kd : List Kind) (σ : L2.St) (H H' : Hp) : Prop := ∀ b o, H b = some o → ¬ Io kd σ b → H' b = some o
theorem Kp.refl : Kp kd σ H H := fun _ _ h _ => h
theorem Kp.trans {H1 : Hp} (a : Kp kd σ H H1) (b : Kp kd σ H1 H') : Kp kd σ H H' := fun c o h n => b c o (a c o h n) n
theorem Kp.stays (k : Kp kd σ H H') : Stays (Own kd O0 σ) (Own kd O0 σ) H H' := fun b o h n => ⟨k b o h fun z => n (io_own z), n⟩
/-- a new object was laid -/
theorem Kp.laid {p : Addr} {o : HO} (n : H p = none) : Kp kd σ H (upd H p o) := fun b u h _ => by
  rw [upd_ne (ne_of_none h n)]
  exact h
/-- the state at a heap where nothing but new things came -/
theorem SR.kept (s : SR K kd O0 H0 env σ H) (k : ∀ b o, H b = some o → H' b = some o) : SR K kd O0 H0 env σ H' := by
  have st : Stays (Own kd O0 σ) (Own kd O0 σ) H H' := fun b o h n => ⟨k b o h, n⟩
  refine ⟨s.le, s.ls, fun b o h n => k b o (s.fr b o h n), s.o0, fun i d h1 h2 => ?_, fun i d h1 h2 => ?_, fun i d h1 h2 => ?_, s.dj, s.ow⟩
  · obtain ⟨v, e, r⟩ := s.vl i d h1 h2
    exact ⟨v, e, r.mono st⟩
  · obtain ⟨a, l, xs, e, h3, h4, h5, r⟩ := s.lc i d h1 h2
    exact ⟨a, l, xs, e, h3, k _ _ h4, h5, r.mono st⟩
  · obtain ⟨a, ns, e, h3, h4⟩ := s.io i d h1 h2
    exact ⟨a, ns, e, h3, k _ _ h4⟩
theorem upd_keeps {p : Addr} {o : HO} (n : H p = none) : ∀ b u, H b = some u → upd H p o b = some u := fun b u h => by
  rw [upd_ne (ne_of_none h n)]
  exact h
theorem SR.laid (s : SR K kd O0 H0 env σ H) {p : Addr} {o : HO} (n : H p = none) : SR K kd O0 H0 env σ (upd H p o) := s.kept (upd_keeps n)

/-! ### what an expression hands on -/
inductive Md | str | vw | fr
deriving DecidableEq
/-- a list may be an owned one, else as it stands -/
def RepV (K : PySem.W.Frag) (kd : List Kind) (O0 : AS) (σ : L2.St) (H : Hp) : D → V → Prop
  | .lst l, v => ∃ a xs, v = .ref a ∧ ((H a = some (.lst xs) ∧ ¬ Io kd σ a) ∨ LstAt (Own kd O0 σ) H a xs) ∧ Reps K (Own kd O0 σ) H l xs
  | d, v => Rep K (Own kd O0 σ) H d v
/-- a new list: it was not there at H, nobody owns it -/
def RepF (K : PySem.W.Frag) (kd : List Kind) (O0 : AS) (σ : L2.St) (H H' : Hp) (d : D) (v : V) : Prop :=
  ∃ a l xs, d = .lst l ∧ v = .ref a ∧ H a = none ∧ H' a = some (.lst xs) ∧ Reps K (fun b => Own kd O0 σ b ∨ b = a) H' l xs
def MRep (K : PySem.W.Frag) (kd : List Kind) (O0 : AS) (σ : L2.St) (m : Md) (H H' : Hp) (d : D) (v : V) : Prop := match m with
  | .str => Rep K (Own kd O0 σ) H' d v
  | .vw => RepV K kd O0 σ H' d v
  | .fr => RepF K kd O0 σ H H' d v
theorem Rep.v {d : D} {v : V} (h : Rep K (Own kd O0 σ) H d v) : RepV K kd O0 σ H d v := by
  cases d with
  | lst l =>
    unfold Rep at h
    obtain ⟨a, xs, e, p, q⟩ := h
    exact ⟨a, xs, e, .inr p, q⟩
  | _ => exact h
/-- a new one is an honest value: it is not among the owned -/
theorem RepF.str {d : D} {v : V} (s : SR K kd O0 H0 env σ H) (h : RepF K kd O0 σ H H' d v) : Rep K (Own kd O0 σ) H' d v := by
  obtain ⟨a, l, xs, rfl, rfl, n, e, r⟩ := h
  unfold Rep
  refine ⟨a, xs, rfl, ⟨e, fun z => ?_⟩, r.mono fun b o hb hn => ⟨hb, fun z => hn (.inl z)⟩⟩
  obtain ⟨ys, z2⟩ := s.olst a z
  rw [n] at z2
  cases z2
theorem MRep.of_f {m : Md} {d : D} {v : V} (s : SR K kd O0 H0 env σ H) (h : RepF K kd O0 σ H H' d v) : MRep K kd O0 σ m H H' d v := by
  cases m with
  | str => exact h.str s
  | vw => exact (h.str s).v
  | fr => exact h
theorem MRep.of_s {m : Md} {d : D} {v : V} (hm : m ≠ .fr) (h : Rep K (Own kd O0 σ) H' d v) : MRep K kd O0 σ m H H' d v := by
  cases m with
  | str => exact h
  | vw => exact h.v
  | fr => exact absurd rfl hm
theorem RepV.kp {d : D} {v : V} (k : Kp kd σ H H') (h : RepV K kd O0 σ H d v) : RepV K kd O0 σ H' d v := by
  cases d with
  | lst l =>
    obtain ⟨a, xs, e, p, q⟩ := h
    refine ⟨a, xs, e, ?_, q.mono k.stays⟩
    rcases p with ⟨p, n⟩ | p
    · exact .inl ⟨k _ _ p n, n⟩
    · exact .inr (p.mono k.stays)
  | non => exact (show Rep K (Own kd O0 σ) H .non v from h).mono k.stays
  | bl b => exact (show Rep K (Own kd O0 σ) H (.bl b) v from h).mono k.stays
  | int b => exact (show Rep K (Own kd O0 σ) H (.int b) v from h).mono k.stays
  | str b => exact (show Rep K (Own kd O0 σ) H (.str b) v from h).mono k.stays
  | tup b => exact (show Rep K (Own kd O0 σ) H (.tup b) v from h).mono k.stays
  | dic b c => exact (show Rep K (Own kd O0 σ) H (.dic b c) v from h).mono k.stays
  | ins b c => exact (show Rep K (Own kd O0 σ) H (.ins b c) v from h).mono k.stays
  | scr b => exact (show Rep K (Own kd O0 σ) H (.scr b) v from h).mono k.stays
theorem RepV.lst {l : List D} {v : V} (h : RepV K kd O0 σ H (.lst l) v) : ∃ a xs, v = .ref a ∧ H a = some (.lst xs) ∧ Reps K (Own kd O0 σ) H l xs := by
  obtain ⟨a, xs, e, p, q⟩ := h
  refine ⟨a, xs, e, ?_, q⟩
  rcases p with ⟨p, _⟩ | p
  · exact p
  · exact p.1
theorem RepV.scr {l : List Int} {v : V} (h : RepV K kd O0 σ H (.scr l) v) : ∃ a, v = .ref a ∧ SqL K H a (l.map V.int) := by
  have h2 : Rep K (Own kd O0 σ) H (.scr l) v := h
  unfold Rep at h2
  obtain ⟨a, e, p⟩ := h2
  exact ⟨a, e, p.sq⟩
theorem RepV.tup {l : List D} {v : V} (h : RepV K kd O0 σ H (.tup l) v) : ∃ a xs, v = .ref a ∧ SqT K H a xs ∧ Reps K (Own kd O0 σ) H l xs := by
  have h2 : Rep K (Own kd O0 σ) H (.tup l) v := h
  unfold Rep at h2
  obtain ⟨a, xs, e, p, q⟩ := h2
  exact ⟨a, xs, e, p.sq, q⟩
theorem RepV.int {i : Int} {v : V} (h : RepV K kd O0 σ H (.int i) v) : v = .int i := Rep.scal_int (K := K) (O := Own kd O0 σ) (H := H) h
theorem RepV.bl {i : Bool} {v : V} (h : RepV K kd O0 σ H (.bl i) v) : v = .bl i := Rep.scal_bl (K := K) (O := Own kd O0 σ) (H := H) h
/-- a new tuple -/
theorem rep_newT {l : List D} {xs : List V} {p : Addr} (s : SR K kd O0 H0 env σ H) (n : H p = none) (r : Reps K (Own kd O0 σ) H l xs) : Rep K (Own kd O0 σ) (upd H p (.tup xs)) (.tup l) (.ref p) := by
  unfold Rep
  refine ⟨p, xs, rfl, .inl ⟨.inl upd_same, fun z => ?_⟩, r.mono fun b o h hn => ⟨upd_keeps n b o h, hn⟩⟩
  obtain ⟨ys, z2⟩ := s.olst p z
  rw [n] at z2
  cases z2
/-- a new list -/
theorem rep_newL {l : List D} {xs : List V} {p : Addr} {Hs : Hp} (hs : Hs p = none) (n : H p = none) (r : Reps K (Own kd O0 σ) H l xs) : RepF K kd O0 σ Hs (upd H p (.lst xs)) (.lst l) (.ref p) :=
  ⟨p, l, xs, rfl, rfl, hs, upd_same, r.mono fun b o h hn => ⟨upd_keeps n b o h, fun z => z.elim hn (fun e => by subst e; rw [n] at h; cases h)⟩⟩
/-- an address that is free now was free before -/
theorem Kp.free (s : SR K kd O0 H0 env σ H) (k : Kp kd σ H H') {p : Addr} (n : H' p = none) (hio : ∀ b, Io kd σ b → H' b ≠ none) : H p = none := by
  cases e : H p with
  | none => rfl
  | some o =>
    by_cases hi : Io kd σ p
    · exact absurd n (hio p hi)
    · rw [k p o e hi] at n
      cases n
theorem SR.free {env' : EnD} (s : SR K kd O0 H0 env σ H) (s' : SR K kd O0 H0 env' σ H') (k : Kp kd σ H H') {p : Addr} (n : H' p = none) : H p = none :=
  k.free s n fun b hb => by
    obtain ⟨xs, e⟩ := s'.olst b (io_own hb)
    rw [e]
    exact fun z => by cases z
end
end LS
/-! LsD: promises of defs with no repr around, the context, the look at the syntax (chk). -/
namespace LS
open PySem PySem.Spec PyProof.Rows L2

/-! ### a def's promise where no repr is under way -/
structure FnG (P : Program) (w : World) (K : PySem.W.Frag) (mg : Str → Option Value) (base : Heap) (k : Nat) (f : Addr) (fd : FuncData) (ps : List Str) (sp : Sp) : Prop where
  ln : ∀ vs H Q E, sp vs H Q E → vs.length = ps.length
  go : ∀ (A : Around) (outer : List Env) (s : Shared) (H : Hp) (args : Args) (us : List Value) (vs : List V) (Q : VK) (E : XK), Room k A → A.guards = some [] → Env0 P w K mg base A outer s H →
    BindsTo s fd args (ps.zip us) → Vals vs us → sp vs H Q E → codeAny (model P w) A (.call (.ref f) args) (CR (L2.CX P w) outer P w H s Q E) s
theorem FnG.up {P : Program} {w : World} {K : PySem.W.Frag} {mg : Str → Option Value} {base : Heap} {j k : Nat} {f : Addr} {fd : FuncData} {ps : List Str} {sp : Sp} (F : FnG P w K mg base j f fd ps sp) (h : j ≤ k) : FnG P w K mg base k f fd ps sp :=
  ⟨F.ln, fun A outer s H args us vs Q E hr hg => F.go A outer s H args us vs Q E (hr.mono h) hg⟩

section
variable {X : Cx} {k : Nat} {f : Addr} {fd : FuncData} {ps : List Str} {sp : Sp} {ds : List Value} {x : Str} {p pos : Pos} {es : List Expr} {t : TA}
theorem run_g {pins : List (Addr × Obj)} {σ : L2.St} {H : Hp} {s : Shared} {Q : VK} {us : List Value} {vs : List V} (F : FnG X.prog X.w X.K X.mg X.base k f fd ps sp) (hr : Room k X.A) (gd : X.A.guards = some []) (hb : Binds X.K fd ps [])
    (I : Inv X pins σ H s) (r : Vals vs us) (h : sp vs H Q E0) : wpAny (model X.prog X.w) X.A (call (.ref f) us) (EP X pins σ Q) X.xe s := by
  have hl : us.length = ps.length := r.length.symm.trans (F.ln _ _ _ _ h)
  have hb2 := hb s us I.kIn (by simpa using hl)
  rw [List.append_nil] at hb2
  refine wpAny_call (codeAny_mono (F.go X.A X.stack s H ⟨us, []⟩ us vs Q E0 hr gd I.env0 hb2 r h) fun r s2 hq => ?_)
  match r, hq with
  | .error e, hq => exact passL pins σ H s e s2 I hq
  | .ok (.ret u), hq => exact I.after hq
theorem starAll : ∀ {es : List Expr}, (∀ e ∈ es, ∀ a b, e ≠ .Starred a b) → ∀ (env : Env) (pos : Pos), (backTo pos (starEach es env)).any (·.1) = false
  | [], _, _, _ => rfl
  | e :: r, h, env, pos => by
    have h1 : starEach (e :: r) env = (false, eval e env) :: starEach r env := by
      cases e <;> first | rfl | exact absurd rfl (h _ List.mem_cons_self _ _)
    rw [h1]
    have ih := starAll (es := r) (fun e he => h e (List.mem_cons_of_mem _ he)) env pos
    show (_ || _) = false
    rw [Bool.false_or]
    exact ih
def noStar : Expr → Bool
  | .Starred _ _ => false
  | _ => true
theorem star1 {e : Expr} {r : List Expr} {env : Env} (h : noStar e = true) : starEach (e :: r) env = (false, eval e env) :: starEach r env := by
  cases e <;> first | rfl | cases h
theorem star2 : ∀ {es : List Expr}, es.all noStar = true → ∀ (env : Env) (pos : Pos), (backTo pos (starEach es env)).any (·.1) = false
  | [], _, _, _ => rfl
  | e :: r, h, env, pos => by
    rw [List.all_cons, Bool.and_eq_true] at h
    rw [star1 h.1]
    show (_ || _) = false
    rw [Bool.false_or]
    exact star2 h.2 env pos
/-- f(..), f an own def -/
theorem pe_g {e : Expr} (F : FnG X.prog X.w X.K X.mg X.base k f fd ps sp) (hr : Room k X.A) (gd : X.A.guards = some []) (hg : Gl X x) (hm : X.mg x = some (.ref f)) (hk : PySem.W.keepIn X.K (.ref f) = true) (hb : Binds X.K fd ps [])
    (hdb : (x == ("__debug__" : Str)) = false) (ha : PA X (e :: es) t) (hs : (e :: es).all noStar = true) : PE X (.Call (.Name x p) (e :: es) [] pos) (fun σ H Q => t σ H fun vs H1 => sp vs H1 Q E0) := by
  refine ⟨fun pins s σ H Q I h => ?_⟩
  refine wpAny_Call_Name_kw (ld_glob I hg hm ?_ hdb)
  rw [List.all_cons, Bool.and_eq_true] at hs
  refine PySem.W.callWith_K (h₀ := X.base) I.ok.mod.kin hk (thn (ha.run pos pins s σ H _ I h) fun us s1 ⟨vs, H1, I1, r, q⟩ => ⟨I1.kIn, ?_⟩) (star1 hs.1) (star2 hs.2 _ _)
  exact run_g F hr gd hb I1 r q
theorem pe_g0 (F : FnG X.prog X.w X.K X.mg X.base k f fd ps sp) (hr : Room k X.A) (gd : X.A.guards = some []) (hg : Gl X x) (hm : X.mg x = some (.ref f)) (hk : PySem.W.keepIn X.K (.ref f) = true) (hb : Binds X.K fd ps [])
    (hdb : (x == ("__debug__" : Str)) = false) : PE X (.Call (.Name x p) [] [] pos) (fun σ H Q => sp [] H Q E0) := by
  refine ⟨fun pins s σ H Q I h => ?_⟩
  refine wpAny_Call_Name_kw (ld_glob I hg hm ?_ hdb)
  exact PySem.W.callWith_K0 I.kIn hk (run_g (us := []) F hr gd hb I .nil h)
end
end LS
/-! LsE: a def's promise by the evaluator; the context; the look at the syntax. -/
namespace LS
open PySem PySem.Spec PyProof.Rows L2

def ARep (K : PySem.W.Frag) (O : AS) (H : Hp) : List Kind → List D → List V → Prop
  | [], [], vs => vs = []
  | .io :: ks, d :: ds, vs => ∃ (a : Addr) (ns : List Int) (vr : List V), vs = .ref a :: vr ∧ d = .lst (ns.map D.int) ∧ H a = some (.lst (ns.map V.int)) ∧ ARep K O H ks ds vr
  | .val :: ks, d :: ds, vs => ∃ (v : V) (vr : List V), vs = v :: vr ∧ Rep K O H d v ∧ ARep K O H ks ds vr
  | _, _, _ => False
def IoV (pk : List Kind) (vs : List V) : AS := fun b => ∃ i : Nat, pk[i]? = some .io ∧ vs[i]? = some (.ref b)
def ORep (H : Hp) : List Kind → List V → List D → Prop
  | [], _, os => os = []
  | .io :: ks, .ref a :: vs, o :: os => (∃ ns : List Int, o = .lst (ns.map D.int) ∧ H a = some (.lst (ns.map V.int))) ∧ ORep H ks vs os
  | .val :: ks, _ :: vs, os => ORep H ks vs os
  | _, _, _ => False
/-- a new list, by the callee's own word -/
def RFr (K : PySem.W.Frag) (O : AS) (H H' : Hp) (r : D) (v : V) : Prop :=
  ∃ (a : Addr) (l : List D) (xs : List V), r = .lst l ∧ v = .ref a ∧ H a = none ∧ H' a = some (.lst xs) ∧ Reps K (fun b => O b ∨ b = a) H' l xs
/-- the promise of a def: what the evaluator tells -/
def spF (K : PySem.W.Frag) (P : Prg) (k f : Nat) (F : Fn) : Sp := fun vs H Q _ => ∃ (O : AS) (ds : List D) (r : D) (os : List D),
  vs.length = F.ps.length ∧ ARep K O H F.pk ds vs ∧ (∀ (i j : Nat) (a : Addr), F.pk[i]? = some .io → F.pk[j]? = some .io → vs[i]? = some (.ref a) → vs[j]? = some (.ref a) → i = j) ∧
  (∀ b, IoV F.pk vs b → O b) ∧ (∀ b, O b → ∃ xs, H b = some (.lst xs)) ∧ run P k f ds = some (r, os) ∧
  ∀ v H', (∀ b o, H b = some o → ¬ IoV F.pk vs b → H' b = some o) → ORep H' F.pk vs os → Rep K O H' r v → (F.fresh = true → RFr K O H H' r v) → Q v H'

structure Sta where
  N : List Str
  sc : Scope
  fnB : Str → Bool
  kd : List Kind
  P : Prg
  gn : Nat → Str
  bl : List Str
  gcd : Bool
  kws : List (Str × Nat × List Str × List Nat)

/-- how a call with keywords binds: n values by place, those of `names` by name; ks tells where each parameter's value stands -/
def KB (K : PySem.W.Frag) (fd : FuncData) (ps : List Str) (n : Nat) (names : List Str) (ks : List Nat) : Prop :=
  ∀ (s : Shared) (us ws : List Value), K.In s.heap → us.length = n → ws.length = names.length → ∃ gs, permK (us ++ ws) ks = some gs ∧ BindsTo s fd ⟨us, names.zip ws⟩ (ps.zip gs)
structure Ctx (k : Nat) (S : Sta) (X : Cx) : Prop where
  sc : X.env.scope = S.sc
  kf : S.sc.kind = .function
  fnB : ∀ x, S.fnB x = true → X.fn x = true
  N : X.N = S.N
  nd : S.N.Nodup
  nl : S.kd.length = S.N.length
  cm : X.calm = true
  gd : X.A.guards = some []
  rm : Room k X.A
  xe : X.xe = fun _ _ => False
  gl : ∀ n d, S.P.gl n = some d → ∃ u v, X.mg (S.gn n) = some u ∧ RelV v u ∧ (S.gn n == ("__debug__" : Str)) = false ∧ ∀ O H, Rep X.K O H d v
  bl : ∀ x ∈ S.bl, X.mg x = none
  gc : S.gcd = true → X.mg "gcd" = some (.builtin "math.gcd")
  fn : ∀ f F, S.P.fn f = some F → ∃ fa fd, X.mg F.name = some (.ref fa) ∧ PySem.W.keepIn X.K (.ref fa) = true ∧ F.ps.length ≤ F.kd.length ∧ Binds X.K fd F.ps [] ∧ (∀ n names ks, (F.name, n, names, ks) ∈ S.kws → KB X.K fd F.ps n names ks) ∧ FnG X.prog X.w X.K X.mg X.base k fa fd F.ps (spF X.K S.P k f F)

/-! ### the look at the syntax -/
def isVis (sc : Scope) (x : Str) : Bool := match sc.names.lookup x with
  | some .local => true | some .cell => true | some .free => true | _ => false
def isLoc (sc : Scope) (x : Str) : Bool := match sc.names.lookup x with
  | some .local => true | some .cell => true | _ => false
def isPlain (sc : Scope) (x : Str) : Bool := match sc.names.lookup x with
  | some .local => true | _ => false
def isGl (sc : Scope) (x : Str) : Bool := match sc.names.lookup x with
  | some .globalImplicit => true | _ => false
def Sta.nm (S : Sta) (i : Nat) (x : Str) : Bool := decide (S.N[i]? = some x) && isVis S.sc x && !(x == ("__debug__" : Str)) && !(x == ("__classdict__" : Str))
def Sta.nmE (S : Sta) (i : Nat) : Expr → Bool
  | .Name x _ => S.nm i x
  | _ => false
def Sta.st (S : Sta) (i : Nat) (x : Str) : Bool := decide (S.N[i]? = some x) && isLoc S.sc x && (S.fnB x || isPlain S.sc x)
def opOk : Op → Operator → Bool
  | .add, .Add => true | .sub, .Sub => true | .mul, .Mult => true | .fdiv, .FloorDiv => true | .mod, .Mod => true | .pow, .Pow => true
  | _, _ => false
def copOk : Cop → CmpOp → Bool
  | .eq, .Eq => true | .ne, .NotEq => true | .lt, .Lt => true | .le, .LtE => true | .gt, .Gt => true | .ge, .GtE => true
  | _, _ => false
def biName : Bi → Str
  | .len => "len" | .abs => "abs" | .int => "int" | .max2 => "max" | .min2 => "min" | .tuple => "tuple" | .list => "list" | .sum => "sum" | .all => "all" | .any => "any" | .repr => "repr" | .gcd => "gcd" | .str => "str"
def noSlice : Expr → Bool
  | .Slice _ _ _ _ => false
  | _ => true
def noSetE : Expr → Bool
  | .Set _ _ _ => false
  | _ => true
mutual
def chkT (S : Sta) : T → Expr → Bool
  | .n i, .Name x _ => S.st i x && decide (S.kd[i]? = some .val)
  | .t l, .Tuple es _ _ => chkTL S l es && es.all noStar
  | _, _ => false
def chkTL (S : Sta) : List T → List Expr → Bool
  | [], [] => true
  | t :: ts, e :: es => chkT S t e && chkTL S ts es
  | _, _ => false
end
mutual
def T.slots : T → List Nat
  | .n i => [i]
  | .t l => T.slotsL l
def T.slotsL : List T → List Nat
  | [] => []
  | u :: r => T.slots u ++ T.slotsL r
end
def isTupE : Expr → Bool
  | .Tuple _ _ _ => true
  | _ => false
def blkS (S : Sta) (scope : Scope) : Sta := { S with sc := relS scope S.sc, fnB := fun x => scope.names.lookup x == some .cell }
def ownNames (S : Sta) (own : List Nat) : List (Str × Nat) := own.map fun i => ((S.N[i]?).getD "", i)

/-- plain values alone -/
def noBor : AL → Bool
  | .nil => true
  | .val _ r => noBor r
  | _ => false
mutual
def chk (S : Sta) (m : Md) : E → Expr → Bool
  | .v i, .Name x _ => S.nm i x && (match S.kd[i]? with | some .val => decide (m ≠ .fr) | some .loc => decide (m = .vw) | _ => false)
  | .int i, .Constant (.int j) _ _ => decide (i = j) && decide (m ≠ .fr)
  | .bl b, .Constant (.bool c) _ _ => decide (b = c) && decide (m ≠ .fr)
  | .str x, .Constant (.str y) _ _ => decide (x = y) && decide (m ≠ .fr)
  | .non, .Constant .none _ _ => decide (m ≠ .fr)
  | .dic0, .Dict [] [] _ => decide (m ≠ .fr)
  | .dic1 x i, .Dict [some (.Constant (.str y) _ _)] [.Constant (.int j) _ _] _ => decide (x = y) && decide (i = j) && decide (m ≠ .fr)
  | .g n, .Name x _ => decide (x = S.gn n) && isGl S.sc x && decide (m ≠ .fr)
  | .tup es, .Tuple as _ _ => decide (m ≠ .fr) && chkL S .str es as && decide (as.length ≤ 1000)
  | .lst es, .List as _ => chkL S .str es as && decide (as.length ≤ 1000)
  | .op o a b, .BinOp a' o' b' _ => opOk o o' && chk S .vw a a' && chk S .vw b b'
  | .neg a, .UnaryOp .USub a' _ => chk S .vw a a' && decide (m ≠ .fr)
  | .not a, .UnaryOp .Not a' _ => chk S .vw a a' && decide (m ≠ .fr)
  | .and a b, .BoolOp .And (a' :: c :: rest) pos => decide (m = .str) && chk S .str a a' && (match rest with | [] => chk S .str b c | _ => chk S .str b (.BoolOp .And (c :: rest) pos))
  | .or a b, .BoolOp .Or (a' :: c :: rest) pos => decide (m = .str) && chk S .str a a' && (match rest with | [] => chk S .str b c | _ => chk S .str b (.BoolOp .Or (c :: rest) pos))
  | .cmp o a b, .Compare a' [o'] [b'] _ => copOk o o' && chk S .vw a a' && chk S .vw b b' && decide (m ≠ .fr)
  | .chn o1 o2 a b c, .Compare a' [p1, p2] [b', c'] _ => copOk o1 p1 && copOk o2 p2 && chk S .vw a a' && chk S .vw b b' && chk S .vw c c' && decide (m ≠ .fr)
  | .isN a, .Compare a' [.Is] [.Constant .none _ _] _ => chk S .vw a a' && decide (m ≠ .fr)
  | .isNN a, .Compare a' [.IsNot] [.Constant .none _ _] _ => chk S .vw a a' && decide (m ≠ .fr)
  | .ife c a b, .IfExp c' a' b' _ => chkB S c c' && chk S m a a' && chk S m b b'
  | .ix a i, .Subscript a' i' _ => ((match a, a' with
      | .v j, .Name x _ => decide (S.kd[j]? = some .io) && S.nm j x && (match i with | .int _ => true | _ => false)
      | _, _ => false) || chk S .vw a a') && chk S .vw i i' && noSlice i' && decide (m ≠ .fr)
  | .sl a lo hi, .Subscript a' (.Slice lo' hi' none _) _ => chk S .vw a a' && chkO S lo lo' && chkO S hi hi'
  | .rev a, .Subscript a' (.Slice none none (some (.UnaryOp .USub (.Constant (.int 1) _ _) _)) _) _ => chk S .vw a a'
  | .call f as, .Call (.Name x _) args [] _ => (match S.P.fn f with
      | some F => decide (F.name = x) && isGl S.sc x && !(x == ("__debug__" : Str)) && chkA S F.pk as args && (decide (m ≠ .fr) || (F.fresh && !lentA as)) && args.all noStar
      | none => false)
  | .callT f g as, .Call (.Name x _) [.Call (.Name y _) args [] _] [] _ => (match S.P.fn f, S.P.fn g with
      | some F, some G => decide (F.name = x) && isGl S.sc x && !(x == ("__debug__" : Str)) && decide (F.pk = [.io]) && decide (G.name = y) && isGl S.sc y && !(y == ("__debug__" : Str)) && G.fresh && chkA S G.pk as args && noBor as && decide (args ≠ []) && args.all noStar && (decide (m ≠ .fr) || F.fresh)
      | _, _ => false)
  | .callk f as es ks, .Call (.Name x _) args kws _ => (match S.P.fn f with
      | some F => decide (F.name = x) && isGl S.sc x && !(x == ("__debug__" : Str)) && F.pk.all (fun kn => decide (kn = .val)) && kws.all (fun q => q.arg.isSome) && decide ((F.name, args.length, kws.filterMap (·.arg), ks) ∈ S.kws) && args.all noStar && chkL S .str as args && chkL S .str es (kws.map (·.value)) && (kws.map (·.value)).all noStar && (decide (m ≠ .fr) || F.fresh)
      | none => false)
  | .isB ng b a, .Compare a' [o] [.Constant (.bool b') _ _] _ => (match o with | .Is => !ng | .IsNot => ng | _ => false) && decide (b = b') && chk S .vw a a' && decide (m ≠ .fr)
  | .bi b es, .Call (.Name x _) args [] _ => decide (x = biName b) && isGl S.sc x && (if b = .gcd then S.gcd else decide (x ∈ S.bl)) && chkL S .vw es args && args.all noStar && decide (args ≠ []) && (decide (m ≠ .fr) || decide (b = .list))
  | .isi ty a, .Call (.Name x _) [a', .Name y _] [] _ => decide (x = ("isinstance" : Str)) && isGl S.sc x && decide (x ∈ S.bl) && decide (y = Str.ofString ty) && decide (ty ∈ ["int", "bool", "tuple", "list", "str"]) && isGl S.sc y && decide (y ∈ S.bl) && chk S .vw a a' && decide (m ≠ .fr) && noStar a'
  | .lc elt t it own, .ListComp elt' [⟨tg, iter, [], 0⟩] scope _ => chkI S .vw it tg iter && blkC S.N S.sc scope (ownNames S own) && own.all (fun i => decide (S.kd[i]? = some .val)) && chkT (blkS S scope) t tg && (T.slots t).all (fun i => own.contains i) && chk (blkS S scope) .str elt elt' && noSetE iter
  | .lcif elt t it c own, .ListComp elt' [⟨tg, iter, [c'], 0⟩] scope _ => chkI S .vw it tg iter && blkC S.N S.sc scope (ownNames S own) && own.all (fun i => decide (S.kd[i]? = some .val)) && chkT (blkS S scope) t tg && (T.slots t).all (fun i => own.contains i) && chk (blkS S scope) .str elt elt' && chkB (blkS S scope) c c' && noSetE iter
  | _, _ => false
/-- a test -/
def chkB (S : Sta) : E → Expr → Bool
  | .not a, .UnaryOp .Not a' _ => chkB S a a'
  | .and a b, .BoolOp .And (a' :: c :: rest) pos => chkB S a a' && (match rest with | [] => chkB S b c | _ => chkB S b (.BoolOp .And (c :: rest) pos))
  | .or a b, .BoolOp .Or (a' :: c :: rest) pos => chkB S a a' && (match rest with | [] => chkB S b c | _ => chkB S b (.BoolOp .Or (c :: rest) pos))
  | .cmp o a b, .Compare a' [o'] [b'] _ => copOk o o' && chk S .vw a a' && chk S .vw b b'
  | .chn o1 o2 a b c, .Compare a' [p1, p2] [b', c'] _ => copOk o1 p1 && copOk o2 p2 && chk S .vw a a' && chk S .vw b b' && chk S .vw c c'
  | .isN a, .Compare a' [.Is] [.Constant .none _ _] _ => chk S .vw a a'
  | .isNN a, .Compare a' [.IsNot] [.Constant .none _ _] _ => chk S .vw a a'
  | .bl b, .Constant (.bool c) _ _ => decide (b = c)
  | .v i, .Name x _ => S.nm i x && (match S.kd[i]? with | some .val => true | some .loc => true | _ => false)
  | .call f as, .Call (.Name x _) args [] _ => (match S.P.fn f with
      | some F => decide (F.name = x) && isGl S.sc x && !(x == ("__debug__" : Str)) && chkA S F.pk as args && args.all noStar
      | none => false)
  | .callT f g as, .Call (.Name x _) [.Call (.Name y _) args [] _] [] _ => (match S.P.fn f, S.P.fn g with
      | some F, some G => decide (F.name = x) && isGl S.sc x && !(x == ("__debug__" : Str)) && decide (F.pk = [.io]) && decide (G.name = y) && isGl S.sc y && !(y == ("__debug__" : Str)) && G.fresh && chkA S G.pk as args && noBor as && decide (args ≠ []) && args.all noStar
      | _, _ => false)
  | .callk f as es ks, .Call (.Name x _) args kws _ => (match S.P.fn f with
      | some F => decide (F.name = x) && isGl S.sc x && !(x == ("__debug__" : Str)) && F.pk.all (fun kn => decide (kn = .val)) && kws.all (fun q => q.arg.isSome) && decide ((F.name, args.length, kws.filterMap (·.arg), ks) ∈ S.kws) && args.all noStar && chkL S .str as args && chkL S .str es (kws.map (·.value)) && (kws.map (·.value)).all noStar
      | none => false)
  | .isB ng b a, .Compare a' [o] [.Constant (.bool b') _ _] _ => (match o with | .Is => !ng | .IsNot => ng | _ => false) && decide (b = b') && chk S .vw a a'
  | .bi b es, .Call (.Name x _) args [] _ => decide (x = biName b) && isGl S.sc x && (if b = .gcd then S.gcd else decide (x ∈ S.bl)) && chkL S .vw es args && args.all noStar && decide (args ≠ [])
  | .isi ty a, .Call (.Name x _) [a', .Name y _] [] _ => decide (x = ("isinstance" : Str)) && isGl S.sc x && decide (x ∈ S.bl) && decide (y = Str.ofString ty) && decide (ty ∈ ["int", "bool", "tuple", "list", "str"]) && isGl S.sc y && decide (y ∈ S.bl) && chk S .vw a a' && noStar a'
  | .ix a i, .Subscript a' i' _ => chk S .vw a a' && chk S .vw i i' && noSlice i'
  | _, _ => false
def chkL (S : Sta) (m : Md) : EL → List Expr → Bool
  | .nil, [] => true
  | .cons e r, a :: as => chk S m e a && noStar a && chkL S m r as
  | _, _ => false
def chkO (S : Sta) : EO → Option Expr → Bool
  | .no, none => true
  | .so e, some a => chk S .vw e a
  | _, _ => false
def chkA (S : Sta) : List Kind → AL → List Expr → Bool
  | [], .nil, [] => true
  | .val :: ks, .val e r, a :: as => chk S .str e a && noStar a && chkA S ks r as
  | .val :: ks, .bor i r, a :: as => S.nmE i a && decide (S.kd[i]? = some .loc) && chkA S ks r as
  | .io :: ks, .io i r, a :: as => S.nmE i a && decide (S.kd[i]? = some .io) && noIo i r && chkA S ks r as
  | _, _, _ => false
def noIo (i : Nat) : AL → Bool
  | .nil => true
  | .io j r => decide (i ≠ j) && noIo i r
  | .val _ r => noIo i r
  | .bor _ r => noIo i r
def chkI (S : Sta) (m : Md) : I → Expr → Expr → Bool
  | .seq e, _, a => chk S m e a
  | .rng1 e, _, .Call (.Name x _) [a] [] _ => decide (x = ("range" : Str)) && isGl S.sc x && decide (x ∈ S.bl) && chk S .vw e a && noStar a
  | .rng2 e1 e2, _, .Call (.Name x _) [a, b] [] _ => decide (x = ("range" : Str)) && isGl S.sc x && decide (x ∈ S.bl) && chk S .vw e1 a && chk S .vw e2 b && noStar a && noStar b
  | .rng3 e1 e2 e3, _, .Call (.Name x _) [a, b, d] [] _ => decide (x = ("range" : Str)) && isGl S.sc x && decide (x ∈ S.bl) && chk S .vw e1 a && chk S .vw e2 b && chk S .vw e3 d && noStar a && noStar b && noStar d
  | .enz e1 e2, tg, .Call (.Name x _) [.Call (.Name y _) [a, b] [] _] [] _ => isTupE tg && decide (x = ("enumerate" : Str)) && isGl S.sc x && decide (x ∈ S.bl) && decide (y = ("zip" : Str)) && isGl S.sc y && decide (y ∈ S.bl) && chk S m e1 a && chk S m e2 b && noStar a && noStar b
  | .enum e, tg, .Call (.Name x _) [a] [] _ => isTupE tg && decide (x = ("enumerate" : Str)) && isGl S.sc x && decide (x ∈ S.bl) && chk S m e a && noStar a
  | .zip e1 e2, tg, .Call (.Name x _) [a, b] [] _ => isTupE tg && decide (x = ("zip" : Str)) && isGl S.sc x && decide (x ∈ S.bl) && chk S m e1 a && chk S m e2 b && noStar a && noStar b
  | .rev e, _, .Call (.Name x _) [a] [] _ => decide (x = ("reversed" : Str)) && isGl S.sc x && decide (x ∈ S.bl) && chk S m e a && noStar a
  | .revr e, _, .Call (.Name x _) [.Call (.Name y _) [a] [] _] [] _ => decide (x = ("reversed" : Str)) && isGl S.sc x && decide (x ∈ S.bl) && decide (y = ("range" : Str)) && isGl S.sc y && decide (y ∈ S.bl) && chk S .vw e a && noStar a
  | _, _, _ => false
end
end LS
/-! LsR: rules that the hand layer lacks. -/
namespace LS
open PySem PySem.Spec PyProof.Rows L2

section
variable {X : Cx}
/-- // by any divisor of less than 9000 bits -/
theorem op_fdivG : OpR X (binaryOp .FloorDiv) (rI (fun _ j => j ≠ 0 ∧ j.natAbs.log2 < 9000) fun i j => .int (i.fdiv j)) :=
  opI fun _ _ _ _ _ _ _ hc q => floordiv_int hc.1 q (.inl (PyProof.noPylong_of_log2 hc.2))

/-! ### a tuple, once or not at all -/
theorem tup_mul1 (l : Addr) (items : Array Value) (n : Nat) (dd : Option Addr) (sl : Array (Option Value)) (u : Tok) :
    Meets (Builtin.«tuple.__mul__» ⟨[.ref l, .int 1 u], []⟩) (fun _ R s => s.heap.get? l = some { cls := .type "tuple", dict := dd, data := .seq items n, slots := sl } ∧ R (.ok (.ret (Value.ref l))) s) :=
  .of_wp fun prog w A R s h => by
    obtain ⟨hp, g, d, tk, os⟩ := s
    obtain ⟨hl, h⟩ := h
    have f1 := AutoSeq1.idx_int
    wp_walk using wpAny_loadPart' hl
    have c1 : (items.isEmpty || (1 : Int) == 1) = true := by simp
    repeat (first
      | (refine wpAny_ite_false (by decide) ?_; wp_walk using wpAny_loadPart' hl)
      | (refine wpAny_ite_true (by simp) ?_; wp_walk using wpAny_loadPart' hl))
    exact ⟨_, rfl, h⟩
theorem tup_mul0 (l : Addr) (items : Array Value) (n : Nat) (dd : Option Addr) (sl : Array (Option Value)) (x : Int) (u : Tok) (hx : x ≤ 0) (hx2 : -(2 ^ 63) ≤ x) (hi : items.isEmpty = false) :
    Meets (Builtin.«tuple.__mul__» ⟨[.ref l, .int x u], []⟩) (fun _ R s => s.heap.get? l = some { cls := .type "tuple", dict := dd, data := .seq items n, slots := sl } ∧
      R (.ok (.ret (Value.ref s.heap.objs.size))) { s with heap := s.heap.push { cls := Value.type "tuple", data := Data.seq #[] }, toks := s.toks }) :=
  .of_wp fun prog w A R s h => by
    obtain ⟨hp, g, d, tk, os⟩ := s
    obtain ⟨hl, h⟩ := h
    have f1 := AutoSeq1.idx_int
    have c0 : (decide (x < -(2 ^ 63)) || decide (x ≥ 2 ^ 63)) = false := by
      rw [decide_eq_false (by omega), decide_eq_false (by omega)] <;> rfl
    have c1 : (items.isEmpty || x == 1) = false := by
      rw [hi, Bool.false_or]
      exact beq_eq_false_iff_ne.mpr (by omega)
    have c2 : (decide (x ≤ 0) || items.isEmpty) = true := by
      rw [decide_eq_true hx] <;> rfl
    wp_walk using wpAny_loadPart' hl
    repeat (first
      | (refine wpAny_ite_false (decide_eq_false (by rw [c0]; exact Bool.false_ne_true)) ?_; wp_walk using wpAny_loadPart' hl)
      | (refine wpAny_ite_false (decide_eq_false (by rw [c1]; exact Bool.false_ne_true)) ?_; wp_walk using wpAny_loadPart' hl)
      | (refine wpAny_ite_true (decide_eq_true c2) ?_; wp_walk using wpAny_loadPart' hl))
    exact ⟨_, rfl, h⟩
def rRepG (K : PySem.W.Frag) : R2 := fun x y H Q => ∃ (l : Addr) (k : Int) (xs : List V), x = .ref l ∧ y = .int k ∧ SqT K H l xs ∧ xs ≠ [] ∧ xs.length ≤ 1000 ∧ -1000 ≤ k ∧ k ≤ 1000 ∧
  (k = 1 → Q (.ref l) H) ∧ (k ≠ 1 → ∀ p, H p = none → Q (.ref p) (upd H p (.tup (List.replicate k.toNat xs).flatten)))
theorem op_repG : OpR X (binaryOp .Mult) (rRepG X.K) := by
  intro pins s σ H x y v u Q I rx ry h
  obtain ⟨l, k, xs, rfl, rfl, hT, hne, hz, h1, h2, q1, q2⟩ := h
  by_cases hk : 2 ≤ k
  · exact op_repT pins s σ H _ _ v u Q I rx ry ⟨l, k, xs, rfl, rfl, hT, hne, hk, h2, hz, q2 (by omega)⟩
  · cases rx
    obtain ⟨t, rfl⟩ := ry
    obtain ⟨its, r, ⟨⟨cls, dd, data, sl⟩, ho, hc, n, hd⟩, hs⟩ := I.tuple hT
    simp only at hc hd
    subst hc hd
    have hi : its.toArray.isEmpty = false := by
      cases r with
      | nil => exact absurd rfl hne
      | cons a b => rfl
    by_cases h11 : k = 1
    · subst h11
      exact wpAny_binaryOp_repeat_ref (T := "tuple") (U := "int") (by decide) ⟨_, ho, rfl⟩ (fun s' => typeIs_int s' 1 t) noFill_tuple_mul F.fills_int_mul F.slot_int_rmul repeat_tuple F.slot_int_index.lookup
        (call_meets F.slot_int_rmul (typeIs_int s 1 t) F.entry_int_rmul (F.args_int_rmul_2 _ _) (int_rmul_tuple 1 t l its.toArray n dd sl)
          ⟨ho, rfl, ⟨_, ho, rfl⟩, call_meets F.slot_tuple_mul ⟨_, ho, rfl⟩ F.entry_tuple_mul (F.args_tuple_mul_2 _ _) (tup_mul1 l its.toArray n dd sl t) ⟨ho, ⟨.ref l, H, I, rfl, q1 rfl⟩⟩⟩)
    · refine wpAny_binaryOp_repeat_ref (T := "tuple") (U := "int") (by decide) ⟨_, ho, rfl⟩ (fun s' => typeIs_int s' k t) noFill_tuple_mul F.fills_int_mul F.slot_int_rmul repeat_tuple F.slot_int_index.lookup
        (call_meets F.slot_int_rmul (typeIs_int s k t) F.entry_int_rmul (F.args_int_rmul_2 _ _) (int_rmul_tuple k t l its.toArray n dd sl)
          ⟨ho, rfl, ⟨_, ho, rfl⟩, call_meets F.slot_tuple_mul ⟨_, ho, rfl⟩ F.entry_tuple_mul (F.args_tuple_mul_2 _ _) (tup_mul0 l its.toArray n dd sl k t (by omega) (by omega) hi) ⟨ho, ?_⟩⟩)
      have hk0 : k.toNat = 0 := by omega
      have qq := q2 h11 _ (I.hok.fresh (Nat.le_refl s.heap.objs.size))
      rw [hk0] at qq
      refine ⟨.ref s.heap.objs.size, _, I.laid (t' := s.toks) (o := .tup []) (fun b ob q => Heap.get?_push_of_some _ q) (Nat.le_refl _) ?_, rfl, qq⟩
      exact ⟨Nat.zero_le _, [], .nil, IsTup.new _ _⟩

/-! ### repr of data -/
mutual
theorem Rep.reads {pins : List (Addr × Obj)} {σ : L2.St} {H : Hp} {s : Shared} {O : AS} (I : Inv X pins σ H s) : ∀ (d : D) (v : V) (u : Value), d.pure = true → d.py.hasDict = false → Rep X.K O H d v → RelV v u → ∃ as, Reads s.heap u d.py as
  | .non, v, u, _, _, h, r => by
    unfold Rep at h
    subst h
    cases r
    exact ⟨_, Reads.none⟩
  | .bl b, v, u, _, _, h, r => by
    unfold Rep at h
    subst h
    cases r
    exact ⟨_, Reads.bool b⟩
  | .int i, v, u, _, _, h, r => by
    unfold Rep at h
    subst h
    obtain ⟨t, rfl⟩ := r
    exact ⟨_, Reads.int i t⟩
  | .str x, v, u, _, _, h, r => by
    unfold Rep at h
    subst h
    obtain ⟨t, rfl⟩ := r
    exact ⟨_, Reads.str x t⟩
  | .tup l, v, u, hp, hd, h, r => by
    unfold Rep at h
    unfold D.pure at hp
    unfold D.py at hd ⊢
    unfold PyData.hasDict at hd
    obtain ⟨a, xs, rfl, p, q⟩ := h
    cases r
    obtain ⟨its, rv, ⟨o, ho, hc, n, hdt⟩, _⟩ := I.tuple p.sq
    obtain ⟨as, hr⟩ := Reps.reads I l xs its hp hd q rv
    exact ⟨_, Reads.tuple ho hc hdt hr⟩
  | .lst l, v, u, hp, hd, h, r => by
    unfold Rep at h
    unfold D.pure at hp
    unfold D.py at hd ⊢
    unfold PyData.hasDict at hd
    obtain ⟨a, xs, rfl, p, q⟩ := h
    cases r
    obtain ⟨its, rv, ⟨o, n, ho, hc, _, hdt⟩, _⟩ := I.list p.sq
    obtain ⟨as, hr⟩ := Reps.reads I l xs its hp hd q rv
    exact ⟨_, Reads.list ho hc hdt hr⟩
  | .dic ks l, v, u, _, hd, _, _ => by
    unfold D.py at hd
    unfold PyData.hasDict at hd
    cases hd
  | .ins _ _, v, u, hp, _, _, _ => by unfold D.pure at hp; cases hp
  | .scr _, v, u, hp, _, _, _ => by unfold D.pure at hp; cases hp
theorem Reps.reads {pins : List (Addr × Obj)} {σ : L2.St} {H : Hp} {s : Shared} {O : AS} (I : Inv X pins σ H s) : ∀ (l : List D) (xs : List V) (us : List Value), D.pureL l = true → PyData.hasDictAll (D.pyL l) = false → Reps X.K O H l xs → Vals xs us → ∃ as, ReadsAll s.heap us (D.pyL l) as
  | [], xs, us, _, _, h, r => by
    unfold Reps at h
    subst h
    cases r
    unfold D.pyL
    exact ⟨_, ReadsAll.nil⟩
  | d :: l, xs, us, hp, hd, h, r => by
    unfold Reps at h
    unfold D.pureL at hp
    unfold D.pyL at hd ⊢
    unfold PyData.hasDictAll at hd
    rw [Bool.and_eq_true] at hp
    rw [Bool.or_eq_false_iff] at hd
    obtain ⟨v, vs, rfl, p, q⟩ := h
    cases r with
    | cons r1 r2 =>
      obtain ⟨as, h1⟩ := Rep.reads I d v _ hp.1 hd.1 p r1
      obtain ⟨bs, h2⟩ := Reps.reads I l vs _ hp.2 hd.2 q r2
      exact ⟨_, ReadsAll.cons h1 h2⟩
end
/-- what stands somewhere, whoever owns it -/
def Shows (K : PySem.W.Frag) (H : Hp) (d : D) (v : V) : Prop := (∃ O, Rep K O H d v) ∨ ∃ (l : List D) (a : Addr) (xs : List V) (O : AS), d = .lst l ∧ v = .ref a ∧ H a = some (.lst xs) ∧ Reps K O H l xs
theorem Shows.reads {pins : List (Addr × Obj)} {σ : L2.St} {H : Hp} {s : Shared} {d : D} {v : V} {u : Value} (I : Inv X pins σ H s) (h : Shows X.K H d v) (hp : d.pure = true) (hd : d.py.hasDict = false) (r : RelV v u) : ∃ as, Reads s.heap u d.py as := by
  rcases h with ⟨O, h⟩ | ⟨l, a, xs, O, rfl, rfl, e, q⟩
  · exact Rep.reads I d v u hp hd h r
  · unfold D.pure at hp
    unfold D.py at hd ⊢
    unfold PyData.hasDict at hd
    cases r
    obtain ⟨its, rv, ⟨o, n, ho, hc, _, hdt⟩, _⟩ := I.list (SqL.of e)
    obtain ⟨as, hr⟩ := Reps.reads I l xs its hp hd q rv
    exact ⟨_, Reads.list ho hc hdt hr⟩
theorem cr_reprD {k : Nat} (gd : X.A.guards = some []) (rm : Room k X.A) : CallR X (.builtin "repr") (fun xs H Q => ∃ (d : D) (v : V) (y : D), xs = [v] ∧ Shows X.K H d v ∧ reprD d = some y ∧ ∀ z, y = .str z → Q (.str z) H) := by
  intro pins s σ H xs us Q I r h
  obtain ⟨d, v, y, rfl, hs, e, q⟩ := h
  obtain ⟨u, rfl, rv⟩ := vals1 r
  unfold reprD at e
  split at e
  · rename_i hc
    simp only [Bool.and_eq_true, Bool.not_eq_true', decide_eq_true_eq] at hc
    obtain ⟨⟨⟨⟨hp, hd⟩, hsh⟩, hz⟩, hdp⟩ := hc
    cases e
    have q' := q _ rfl
    obtain ⟨as, rd⟩ := hs.reads I hp hd rv
    have hu := rm.units
    generalize d.py = e at rd hd hsh hz hdp q'
    cases rd with
    | none => exact P.repr_of_none ⟨.str _, H, I.tok _, ⟨_, rfl⟩, by simpa [PyData.shown] using q'⟩
    | bool b => exact P.repr_of_bool ⟨.str _, H, I.tok _, ⟨_, rfl⟩, by simpa [PyData.shown] using q'⟩
    | int i t =>
      have hi : i.natAbs.log2 < 1920 := by simpa [PyData.showable] using hsh
      exact P.repr_of_int hi ⟨.str _, H, I.tok _, ⟨_, rfl⟩, by simpa [PyData.shown] using q'⟩
    | str x t => exact P.repr_of_str ⟨.str _, H, I.tok _, ⟨_, rfl⟩, by simpa [PyData.shown] using q'⟩ (by simpa [PyData.shown] using hz)
    | list h1 h2 h3 h4 => exact repr_of_reads' (.list h1 h2 h3 h4) hsh (fun z => by rw [hd] at z; cases z) gd (by omega) (fun _ _ z => z) (fun h' u' tk kk => ⟨.str _, H, I.kept kk, ⟨_, rfl⟩, q'⟩) hz
    | tuple h1 h2 h3 h4 => exact repr_of_reads' (.tuple h1 h2 h3 h4) hsh (fun z => by rw [hd] at z; cases z) gd (by omega) (fun _ _ z => z) (fun h' u' tk kk => ⟨.str _, H, I.kept kk, ⟨_, rfl⟩, q'⟩) hz
    | dict h1 h2 h3 h4 h5 => exact absurd hd (by simp [PyData.hasDict])
  · cases e
end
end LS
/-! LsF: what an expression's look says: the small pieces. -/
namespace LS
open PySem PySem.Spec PyProof.Rows L2

section
variable (k : Nat) (S : Sta) (X : Cx)
def EOk (m : Md) (e : E) (t : TE) : Prop := ∀ (O0 : AS) (H0 : Hp) (env : EnD) (σ : L2.St) (H : Hp) (d : D) (env' : EnD) (Q : VK), SR X.K S.kd O0 H0 env σ H → ev (run S.P k) S.P.gl e env = some (d, env') → (m = .fr → ∃ l, d = .lst l) →
  (∀ v H', SR X.K S.kd O0 H0 env' σ H' → Kp S.kd σ H H' → MRep X.K S.kd O0 σ m H H' d v → Q v H') → t σ H Q
def SndE (m : Md) (e : E) (a : Expr) : Prop := ∃ t, PE X a t ∧ EOk k S X m e t
def BOk (e : E) (t : TT) : Prop := ∀ (O0 : AS) (H0 : Hp) (env : EnD) (σ : L2.St) (H : Hp) (b : Bool) (env' : EnD) (Q : Bool → Hp → Prop), SR X.K S.kd O0 H0 env σ H → tst (run S.P k) S.P.gl e env = some (b, env') →
  (∀ H', SR X.K S.kd O0 H0 env' σ H' → Kp S.kd σ H H' → Q b H') → t σ H Q
def SndB (e : E) (a : Expr) : Prop := ∃ t, PT X a t ∧ BOk k S X e t
/-- several values -/
def MReps (K : PySem.W.Frag) (kd : List Kind) (O0 : AS) (σ : L2.St) (m : Md) (H' : Hp) : List D → List V → Prop
  | [], vs => vs = []
  | d :: ds, vs => ∃ v vr, vs = v :: vr ∧ MRep K kd O0 σ m H' H' d v ∧ MReps K kd O0 σ m H' ds vr
def LOk (m : Md) (es : EL) (t : TA) : Prop := ∀ (O0 : AS) (H0 : Hp) (env : EnD) (σ : L2.St) (H : Hp) (ds : List D) (env' : EnD) (Q : List V → Hp → Prop), SR X.K S.kd O0 H0 env σ H → evL (run S.P k) S.P.gl es env = some (ds, env') →
  (∀ vs H', SR X.K S.kd O0 H0 env' σ H' → Kp S.kd σ H H' → MReps X.K S.kd O0 σ m H' ds vs → Q vs H') → t σ H Q
def SndL (m : Md) (es : EL) (as : List Expr) : Prop := ∃ t, PA X as t ∧ LOk k S X m es t
def OOk (e : EO) (t : TO) : Prop := ∀ (O0 : AS) (H0 : Hp) (env : EnD) (σ : L2.St) (H : Hp) (o : Option Int) (env' : EnD) (Q : Option Int → Hp → Prop), SR X.K S.kd O0 H0 env σ H → evO (run S.P k) S.P.gl e env = some (o, env') →
  (∀ H', SR X.K S.kd O0 H0 env' σ H' → Kp S.kd σ H H' → Q o H') → t σ H Q
def SndO (e : EO) (a : Option Expr) : Prop := ∃ t, PO X a t ∧ OOk k S X e t
/-- the arguments of an own def as they come, ahead of the call: plain ones, names of lists, a new list -/
def AReps (K : PySem.W.Frag) (kd : List Kind) (O0 : AS) (σ : L2.St) (H' : Hp) : AL → List D → List V → Prop
  | .nil, [], vs => vs = []
  | .val _ r, d :: ds, vs => ∃ v vr, vs = v :: vr ∧ Rep K (Own kd O0 σ) H' d v ∧ AReps K kd O0 σ H' r ds vr
  | .bor i r, _ :: ds, vs => ∃ v vr, vs = v :: vr ∧ σ[i]? = some (some v) ∧ AReps K kd O0 σ H' r ds vr
  | .io i r, _ :: ds, vs => ∃ v vr, vs = v :: vr ∧ σ[i]? = some (some v) ∧ AReps K kd O0 σ H' r ds vr
  | _, _, _ => False
def AOk (as : AL) (t : TA) : Prop := ∀ (O0 : AS) (H0 : Hp) (env : EnD) (σ : L2.St) (H : Hp) (ds : List D) (env' : EnD) (Q : List V → Hp → Prop), SR X.K S.kd O0 H0 env σ H → evA (run S.P k) S.P.gl as env = some (ds, env') →
  (∀ vs H', SR X.K S.kd O0 H0 env' σ H' → Kp S.kd σ H H' → AReps X.K S.kd O0 σ H' as ds vs → Q vs H') → t σ H Q
end

section
variable {k : Nat} {S : Sta} {X : Cx} {K : PySem.W.Frag} {kd : List Kind} {O0 : AS} {H0 H H' : Hp} {env env' : EnD} {σ : L2.St}
theorem getE_some {i : Nat} {d : D} (h : getE env i = some d) : env[i]? = some (some d) := by
  unfold getE at h
  cases e : env[i]? with
  | none => rw [e] at h; cases h
  | some x =>
    rw [e] at h
    cases x with
    | none => cases h
    | some y => cases h; rfl
/-- a name's slot -/
theorem nm_pe (c : Ctx k S X) {i : Nat} {x : Str} {pos : Pos} (h : S.nm i x = true) : PE X (.Name x pos) (tVar i) := by
  unfold Sta.nm at h
  simp only [Bool.and_eq_true, Bool.not_eq_true', decide_eq_true_eq] at h
  obtain ⟨⟨⟨h1, h2⟩, h3⟩, h4⟩ := h
  refine pe_var (by rw [c.N]; exact h1) ?_ h3 h4
  unfold Vis
  rw [c.sc]
  unfold isVis at h2
  split at h2
  · exact .inl (by assumption)
  · exact .inr (.inl (by assumption))
  · exact .inr (.inr (by assumption))
  · cases h2
theorem gl_of (c : Ctx k S X) {x : Str} (h : isGl S.sc x = true) : Gl X x := by
  unfold isGl at h
  split at h
  · show X.env.scope.names.lookup x = some .globalImplicit
    rw [c.sc]
    assumption
  · cases h
theorem MRep.kp {m : Md} {d : D} {v : V} {H1 H2 : Hp} (hm : m ≠ .fr) (kp : Kp kd σ H1 H2) (h : MRep K kd O0 σ m H H1 d v) : MRep K kd O0 σ m H' H2 d v := by
  cases m with
  | str => exact Rep.mono kp.stays h
  | vw => exact RepV.kp kp h
  | fr => exact absurd rfl hm
theorem MReps.kp {m : Md} {H1 H2 : Hp} (hm : m ≠ .fr) (kp : Kp kd σ H1 H2) : ∀ {ds : List D} {vs : List V}, MReps K kd O0 σ m H1 ds vs → MReps K kd O0 σ m H2 ds vs
  | [], _, h => h
  | d :: ds, _, h => by
    obtain ⟨v, vr, e, p, q⟩ := h
    exact ⟨v, vr, e, MRep.kp hm kp p, MReps.kp hm kp q⟩
theorem MReps.str : ∀ {ds : List D} {vs : List V}, MReps K kd O0 σ .str H ds vs → Reps K (Own kd O0 σ) H ds vs
  | [], _, h => by unfold MReps at h; subst h; exact .nil
  | d :: ds, _, h => by
    obtain ⟨v, vr, e, p, q⟩ := h
    subst e
    exact .cons p (MReps.str q)
theorem MReps.one {m : Md} {d : D} {vs : List V} (h : MReps K kd O0 σ m H [d] vs) : ∃ v, vs = [v] ∧ MRep K kd O0 σ m H H d v := by
  obtain ⟨v, vr, e, p, q⟩ := h
  unfold MReps at q
  subst q
  exact ⟨v, e, p⟩
theorem MReps.two {m : Md} {d d2 : D} {vs : List V} (h : MReps K kd O0 σ m H [d, d2] vs) : ∃ v v2, vs = [v, v2] ∧ MRep K kd O0 σ m H H d v ∧ MRep K kd O0 σ m H H d2 v2 := by
  obtain ⟨v, vr, e, p, q⟩ := h
  obtain ⟨v2, e2, p2⟩ := MReps.one q
  subst e2
  exact ⟨v, v2, e, p, p2⟩

/-! ### constants and names -/
theorem snd_c {m : Md} {e : E} {a : Expr} {d : D} {v : V} (hm : m ≠ .fr) (pe : PE X a (tC v)) (he : ∀ env, ev (run S.P k) S.P.gl e env = some (d, env)) (r : ∀ O H, Rep X.K O H d v) : SndE k S X m e a := by
  refine ⟨_, pe, fun O0 H0 env σ H d' env' Q s h _ q => ?_⟩
  rw [he] at h
  cases h
  exact q v H s .refl (.of_s hm (r _ _))
theorem snd_v (c : Ctx k S X) {m : Md} {i : Nat} {x : Str} {pos : Pos} (h : chk S m (.v i) (.Name x pos) = true) : SndE k S X m (.v i) (.Name x pos) := by
  unfold chk at h
  rw [Bool.and_eq_true] at h
  refine ⟨_, nm_pe c h.1, fun O0 H0 env σ H d env' Q s he _ q => ?_⟩
  unfold ev at he
  obtain ⟨d', h1, h2⟩ := Option.map_eq_some_iff.mp he
  cases h2
  have h3 := getE_some h1
  have h4 := h.2
  split at h4
  · rename_i hk
    obtain ⟨v, e, r⟩ := s.vl i d hk h3
    exact ⟨v, e, q v H s .refl (.of_s (of_decide_eq_true h4) r)⟩
  · rename_i hk
    have hm : m = .vw := of_decide_eq_true h4
    subst hm
    obtain ⟨a, l, xs, e, ha, hH, hn, r⟩ := s.lc i d hk h3
    subst e
    refine ⟨.ref a, ha, q _ H s .refl ⟨a, xs, rfl, .inl ⟨hH, fun z => ?_⟩, r⟩⟩
    obtain ⟨j, hj, haj⟩ := z
    have := s.dj i j a (.inl hk) (.inr hj) ha haj
    subst this
    rw [hk] at hj
    cases hj
  · cases h4

/-! ### pieces in a row -/
theorem seq2 {m1 m2 : Md} {e1 e2 : E} {t1 t2 : TE} (hm : m1 ≠ .fr) (h1 : EOk k S X m1 e1 t1) (h2 : EOk k S X m2 e2 t2) (hm2 : m2 ≠ .fr) {O0 : AS} {H0 : Hp} {env env1 env2 : EnD} {σ : L2.St} {H : Hp} {d1 d2 : D} {R : V → V → Hp → Prop}
    (s : SR X.K S.kd O0 H0 env σ H) (a1 : ev (run S.P k) S.P.gl e1 env = some (d1, env1)) (a2 : ev (run S.P k) S.P.gl e2 env1 = some (d2, env2))
    (q : ∀ x y H2, SR X.K S.kd O0 H0 env2 σ H2 → Kp S.kd σ H H2 → MRep X.K S.kd O0 σ m1 H2 H2 d1 x → MRep X.K S.kd O0 σ m2 H2 H2 d2 y → R x y H2) : t1 σ H fun x H1 => t2 σ H1 fun y H2 => R x y H2 := by
  refine h1 O0 H0 env σ H d1 env1 _ s a1 (fun z => absurd z hm) fun x H1 s1 k1 r1 => ?_
  refine h2 O0 H0 env1 σ H1 d2 env2 _ s1 a2 (fun z => absurd z hm2) fun y H2 s2 k2 r2 => ?_
  refine q x y H2 s2 (k1.trans k2) (MRep.kp hm k2 r1) ?_
  cases m2 with
  | str => exact r2
  | vw => exact r2
  | fr => exact absurd rfl hm2
end
end LS
/-! LsG: operators, comparisons, subscripts, displays, built-ins. -/
namespace LS
open PySem PySem.Spec PyProof.Rows L2

section
variable {k : Nat} {S : Sta} {X : Cx} {K : PySem.W.Frag} {kd : List Kind} {O0 : AS} {H0 H H' Hs : Hp} {env env' : EnD} {σ : L2.St}
theorem okLen {n : Nat} (h : n ≤ 1000000) : n ≤ sizeLine := by rw [sizeLine_eq]; omega
theorem nf {m : Md} {d : D} (h : m = .fr → ∃ l, d = .lst l) (n : ∀ l, d ≠ .lst l) : m ≠ .fr := fun z => let ⟨l, e⟩ := h z; n l e
theorem MRep.int {m : Md} {i : Int} {v : V} (hm : m ≠ .fr) (h : MRep K kd O0 σ m H H' (.int i) v) : v = .int i := by
  cases m with
  | str => exact Rep.scal_int (K := K) (O := Own kd O0 σ) (H := H') h
  | vw => exact RepV.int (K := K) (kd := kd) (O0 := O0) (σ := σ) (H := H') h
  | fr => exact absurd rfl hm
theorem MRep.bl {m : Md} {i : Bool} {v : V} (hm : m ≠ .fr) (h : MRep K kd O0 σ m H H' (.bl i) v) : v = .bl i := by
  cases m with
  | str => exact Rep.scal_bl (K := K) (O := Own kd O0 σ) (H := H') h
  | vw => exact RepV.bl (K := K) (kd := kd) (O0 := O0) (σ := σ) (H := H') h
  | fr => exact absurd rfl hm
theorem mInt {m : Md} {i : Int} (hm : m ≠ .fr) : MRep K kd O0 σ m Hs H (.int i) (.int i) := .of_s hm (by unfold Rep; rfl)
theorem mBl {m : Md} {i : Bool} (hm : m ≠ .fr) : MRep K kd O0 σ m Hs H (.bl i) (.bl i) := .of_s hm (by unfold Rep; rfl)
theorem mStr {m : Md} {i : Str} (hm : m ≠ .fr) : MRep K kd O0 σ m Hs H (.str i) (.str i) := .of_s hm (by unfold Rep; rfl)
theorem RepV.str {x : Str} {v : V} (h : RepV K kd O0 σ H (.str x) v) : v = .str x := by
  have h2 : Rep K (Own kd O0 σ) H (.str x) v := h
  unfold Rep at h2
  exact h2
/-- a new list, for any mode -/
theorem mLst {m : Md} {l : List D} {xs : List V} {p : Addr} (s : SR K kd O0 H0 env σ H) (hs : Hs p = none) (n : H p = none) (r : Reps K (Own kd O0 σ) H l xs) : MRep K kd O0 σ m Hs (upd H p (.lst xs)) (.lst l) (.ref p) := by
  have f := rep_newL (Hs := H) n n r
  cases m with
  | str => exact f.str s
  | vw => exact (f.str s).v
  | fr => exact rep_newL hs n r

def OpSem (S : Sta) (X : Cx) (o : Op) (r : R2) : Prop := ∀ (O0 : AS) (H0 : Hp) (env : EnD) (σ : L2.St) (Hs H : Hp) (d1 d2 d : D) (x y : V) (Q : VK) (m : Md), SR X.K S.kd O0 H0 env σ H → (∀ p, H p = none → Hs p = none) → opF o d1 d2 = some d →
  RepV X.K S.kd O0 σ H d1 x → RepV X.K S.kd O0 σ H d2 y → (m = .fr → ∃ l, d = .lst l) → (∀ v H', SR X.K S.kd O0 H0 env σ H' → Kp S.kd σ H H' → MRep X.K S.kd O0 σ m Hs H' d v → Q v H') → r x y H Q

theorem op_sem_add : ∃ r, OpR X (binaryOp .Add) r ∧ OpSem S X .add r := by
  refine ⟨_, op_add.or (op_add_str.or (op_cat.or op_catA)), fun O0 H0 env σ Hs H d1 d2 d x y Q m s fr e r1 r2 hf q => ?_⟩
  unfold opF at e
  split at e <;> first | (exfalso; rename_i z; cases z; done) | skip
  · cases e
    exact .inl ⟨_, _, r1.int, r2.int, q _ H s .refl (mInt (nf hf (by intro l z; cases z)))⟩
  · split at e
    · rename_i hz
      cases e
      exact .inr (.inl ⟨_, _, r1.str, r2.str, hz, q _ H s .refl (mStr (nf hf (by intro l z; cases z)))⟩)
    · cases e
  · split at e
    · rename_i hz
      cases e
      obtain ⟨a, xs, rfl, h1, p1⟩ := r1.lst
      obtain ⟨b, ys, rfl, h2, p2⟩ := r2.lst
      refine .inr (.inr (.inl ⟨a, b, xs, ys, rfl, rfl, h1, h2, by rw [p1.len, p2.len]; exact hz, fun p n => ?_⟩))
      exact q _ _ (s.laid n) (.laid n) (mLst s (fr p n) n (p1.append p2))
    · cases e
  · split at e
    · rename_i hz
      cases e
      have hm : m ≠ .fr := nf hf (by intro l z; cases z)
      obtain ⟨a, xs, rfl, h1, p1⟩ := r1.tup
      obtain ⟨b, ys, rfl, h2, p2⟩ := r2.tup
      have w1 : Rep X.K (Own S.kd O0 σ) H (.tup _) (.ref a) := r1
      have w2 : Rep X.K (Own S.kd O0 σ) H (.tup _) (.ref b) := r2
      refine .inr (.inr (.inr ⟨a, b, xs, ys, rfl, rfl, h1, h2, by rw [p1.len, p2.len]; exact hz, fun z => ?_, fun _ z => ?_, fun _ _ p n => ?_⟩))
      · subst z
        have : ‹List D› = ‹List D› := rfl
        have z1 := p1.len
        rw [List.length_nil] at z1
        have z2 := List.eq_nil_of_length_eq_zero z1.symm
        subst z2
        exact q _ H s .refl (.of_s hm w2)
      · subst z
        have z1 := p2.len
        rw [List.length_nil] at z1
        have z2 := List.eq_nil_of_length_eq_zero z1.symm
        subst z2
        rw [List.append_nil] at q
        exact q _ H s .refl (.of_s hm w1)
      · exact q _ _ (s.laid n) (.laid n) (.of_s hm (rep_newT s n (p1.append p2)))
    · cases e
  all_goals (first | cases e | (rename_i z; cases z))
theorem op_sem_int {o : Op} {o' : Operator} {C : Int → Int → Prop} {g : Int → Int → Int} (h : OpR X (binaryOp o') (rI C fun i j => .int (g i j))) (he : ∀ d1 d2 d, opF o d1 d2 = some d → ∃ i j, d1 = .int i ∧ d2 = .int j ∧ C i j ∧ d = .int (g i j)) : ∃ r, OpR X (binaryOp o') r ∧ OpSem S X o r := by
  refine ⟨_, h, fun O0 H0 env σ Hs H d1 d2 d x y Q m s fr e r1 r2 hf q => ?_⟩
  obtain ⟨i, j, rfl, rfl, hc, rfl⟩ := he d1 d2 d e
  exact ⟨i, j, r1.int, r2.int, hc, q _ H s .refl (mInt (nf hf (by intro l z; cases z)))⟩
theorem op_sem_mul : ∃ r, OpR X (binaryOp .Mult) r ∧ OpSem S X .mul r := by
  refine ⟨_, op_mulW.or (op_rep.or op_repG), fun O0 H0 env σ Hs H d1 d2 d x y Q m s fr e r1 r2 hf q => ?_⟩
  unfold opF at e
  split at e
  all_goals first | (rename_i z; cases z; done) | skip
  · split at e
    · rename_i hz
      cases e
      exact .inl ⟨_, _, r1.int, r2.int, (show CMulW _ _ from (show _ < 1000000 from of_decide_eq_true hz)), q _ H s .refl (mInt (nf hf (by intro l z; cases z)))⟩
    · cases e
  · split at e
    · rename_i hz
      cases e
      obtain ⟨a, xs, rfl, h1, p1⟩ := r1.lst
      refine .inr (.inl ⟨a, _, xs, rfl, r2.int, h1, hz.2.1, hz.2.2, by rw [p1.len]; exact hz.1, fun p n => ?_⟩)
      exact q _ _ (s.laid n) (.laid n) (mLst s (fr p n) n (p1.rep _))
    · cases e
  · split at e
    · rename_i hz
      cases e
      have hm : m ≠ .fr := nf hf (by intro l z; cases z)
      obtain ⟨a, xs, rfl, h1, p1⟩ := r1.tup
      have w1 : Rep X.K (Own S.kd O0 σ) H (.tup _) (.ref a) := r1
      refine .inr (.inr ⟨a, _, xs, rfl, r2.int, h1, fun z => hz.1 ?_, by rw [p1.len]; exact hz.2.1, hz.2.2.1, hz.2.2.2, fun z => ?_, fun _ p n => ?_⟩)
      · subst z
        have z1 := p1.len
        rw [List.length_nil] at z1
        exact List.eq_nil_of_length_eq_zero z1.symm
      · subst z
        have e1 : (List.replicate (1 : Int).toNat ‹List D›).flatten = ‹List D› := by
          show (List.replicate 1 _).flatten = _
          simp
        rw [e1] at q
        exact q _ H s .refl (.of_s hm w1)
      · exact q _ _ (s.laid n) (.laid n) (.of_s hm (rep_newT s n (p1.rep _)))
    · cases e
  all_goals (first | cases e | (rename_i z; cases z))
theorem op_sem {o : Op} {o' : Operator} (h : opOk o o' = true) : ∃ r, OpR X (binaryOp o') r ∧ OpSem S X o r := by
  cases o with
  | add => cases o' <;> first | (cases h; done) | exact op_sem_add
  | sub =>
    cases o' <;> first | cases h | skip
    refine op_sem_int (C := fun _ _ => True) (g := fun i j => i - j) (opI fun _ _ _ _ _ _ _ _ q => sub_int q) fun d1 d2 d e => ?_
    unfold opF at e
    split at e <;> first | (rename_i z; cases z; done) | skip
    all_goals first | (cases e; exact ⟨_, _, rfl, rfl, trivial, rfl⟩) | cases e
  | mul => cases o' <;> first | (cases h; done) | exact op_sem_mul
  | fdiv =>
    cases o' <;> first | cases h | skip
    refine op_sem_int op_fdivG fun d1 d2 d e => ?_
    unfold opF at e
    split at e <;> first | (rename_i z; cases z; done) | skip
    all_goals first | cases e | skip
    split at e
    · rename_i hz
      cases e
      exact ⟨_, _, rfl, rfl, hz, rfl⟩
    · cases e
  | mod =>
    cases o' <;> first | cases h | skip
    refine op_sem_int op_modN fun d1 d2 d e => ?_
    unfold opF at e
    split at e <;> first | (rename_i z; cases z; done) | skip
    all_goals first | cases e | skip
    split at e
    · rename_i hz
      cases e
      exact ⟨_, _, rfl, rfl, hz, rfl⟩
    · cases e
  | pow =>
    cases o' <;> first | cases h | skip
    refine op_sem_int op_pow fun d1 d2 d e => ?_
    unfold opF at e
    split at e <;> first | (rename_i z; cases z; done) | skip
    all_goals first | cases e | skip
    split at e
    · rename_i hz
      cases e
      exact ⟨_, _, rfl, rfl, hz, rfl⟩
    · cases e
theorem bindS {α β : Type} {o : Option α} {f : α → Option β} {r : β} (h : o.bind f = some r) : ∃ a, o = some a ∧ f a = some r := Option.bind_eq_some_iff.mp h
theorem snd_op {m : Md} {o : Op} {o' : Operator} {a b : E} {a' b' : Expr} {pos : Pos} (h : opOk o o' = true) (ha : SndE k S X .vw a a') (hb : SndE k S X .vw b b') : SndE k S X m (.op o a b) (.BinOp a' o' b' pos) := by
  obtain ⟨r, ho, hs⟩ := op_sem (S := S) (X := X) h
  obtain ⟨ta, pa, ea⟩ := ha
  obtain ⟨tb, pb, eb⟩ := hb
  refine ⟨_, pe_op ho pa pb, fun O0 H0 env σ H d env' Q s he hf q => ?_⟩
  unfold ev at he
  obtain ⟨⟨d1, e1⟩, h1, he⟩ := bindS he
  obtain ⟨⟨d2, e2⟩, h2, he⟩ := bindS he
  obtain ⟨d', h3, he⟩ := Option.map_eq_some_iff.mp he
  cases he
  refine seq2 (by decide) ea eb (by decide) s h1 h2 fun x y H2 s2 k2 r1 r2 => ?_
  exact hs O0 H0 _ σ H H2 d1 d2 d x y Q m s2 (fun p n => s.free s2 k2 n) h3 r1 r2 hf fun v H' s3 k3 r3 => q v H' s3 (k2.trans k3) r3
theorem snd_neg {m : Md} {a : E} {a' : Expr} {pos : Pos} (hm : m ≠ .fr) (ha : SndE k S X .vw a a') : SndE k S X m (.neg a) (.UnaryOp .USub a' pos) := by
  obtain ⟨ta, pa, ea⟩ := ha
  refine ⟨_, pe_un un_neg pa, fun O0 H0 env σ H d env' Q s he hf q => ?_⟩
  unfold ev at he
  obtain ⟨⟨d1, e1⟩, h1, he⟩ := bindS he
  refine ea O0 H0 env σ H d1 e1 _ s h1 (fun z => by cases z) fun x H1 s1 k1 r1 => ?_
  cases d1 <;> first | cases he | skip
  have r2 : RepV X.K S.kd O0 σ H1 (.int _) x := r1
  exact ⟨_, r2.int, q _ H1 s1 k1 (mInt hm)⟩

/-! ### comparisons -/
def CmpSem (S : Sta) (X : Cx) (o : Cop) (r : R2) : Prop := ∀ (O0 : AS) (H0 : Hp) (env : EnD) (σ : L2.St) (H : Hp) (d1 d2 d : D) (x y : V) (Q : VK), SR X.K S.kd O0 H0 env σ H → cmpF o d1 d2 = some d →
  RepV X.K S.kd O0 σ H d1 x → RepV X.K S.kd O0 σ H d2 y → (∀ b, d = .bl b → Q (.bl b) H) → r x y H Q
theorem cmpF_bl {o : Cop} {d1 d2 d : D} (h : cmpF o d1 d2 = some d) : ∃ b, d = .bl b := by
  unfold cmpF at h
  split at h
  · obtain ⟨b, _, e⟩ := Option.map_eq_some_iff.mp h
    exact ⟨b, e.symm⟩
  · obtain ⟨b, _, e⟩ := Option.map_eq_some_iff.mp h
    exact ⟨_, e.symm⟩
  all_goals first | (cases h; exact ⟨_, rfl⟩) | cases h
mutual
theorem Rep.dp {O : AS} : ∀ {d : D} {v : V}, d.pure = true → d.py.canLay0 = true → Rep K O H d v → Dp K H v d.py
  | .non, _, _, _, h => by unfold Rep at h; subst h; unfold D.py; exact .non
  | .bl _, _, _, _, h => by unfold Rep at h; subst h; unfold D.py; exact .bl _
  | .int _, _, _, _, h => by unfold Rep at h; subst h; unfold D.py; exact .int _
  | .str _, _, _, _, h => by unfold Rep at h; subst h; unfold D.py; exact .str _
  | .tup l, _, hp, hc, h => by
    unfold Rep at h
    unfold D.pure at hp
    unfold D.py at hc ⊢
    unfold PyData.canLay0 at hc
    obtain ⟨a, xs, e, p, q⟩ := h
    subst e
    exact .tup p.sq (Reps.dp hp hc q)
  | .lst l, _, hp, hc, h => by
    unfold Rep at h
    unfold D.pure at hp
    unfold D.py at hc ⊢
    unfold PyData.canLay0 at hc
    obtain ⟨a, xs, e, p, q⟩ := h
    subst e
    exact .lst p.sq (Reps.dp hp hc q)
  | .dic _ _, _, _, hc, _ => by unfold D.py at hc; unfold PyData.canLay0 at hc; cases hc
  | .ins _ _, _, hp, _, _ => by unfold D.pure at hp; cases hp
  | .scr _, _, hp, _, _ => by unfold D.pure at hp; cases hp
theorem Reps.dp {O : AS} : ∀ {l : List D} {xs : List V}, D.pureL l = true → PyData.canLayAll0 (D.pyL l) = true → Reps K O H l xs → DpAll K H xs (D.pyL l)
  | [], _, _, _, h => by unfold Reps at h; subst h; unfold D.pyL; exact .nil
  | d :: l, _, hp, hc, h => by
    unfold Reps at h
    unfold D.pureL at hp
    unfold D.pyL at hc ⊢
    unfold PyData.canLayAll0 at hc
    rw [Bool.and_eq_true] at hp hc
    obtain ⟨v, vs, e, p, q⟩ := h
    subst e
    exact .cons (Rep.dp hp.1 hc.1 p) (Reps.dp hp.2 hc.2 q)
end
theorem RepV.dp {d : D} {v : V} (hs : d.shp = true) (h : RepV K kd O0 σ H d v) : Dp K H v d.py := by
  unfold D.shp at hs
  rw [Bool.and_eq_true] at hs
  have hc := SeqAt.canLay_of_shaped hs.2
  cases d with
  | lst l =>
    obtain ⟨a, xs, e, p, q⟩ := h.lst
    subst e
    have hp := hs.1
    unfold D.pure at hp
    unfold D.py at hc ⊢
    unfold PyData.canLay0 at hc
    exact .lst (SqL.of p) (Reps.dp hp hc q)
  | non => exact Rep.dp hs.1 hc (show Rep K (Own kd O0 σ) H .non v from h)
  | bl b => exact Rep.dp hs.1 hc (show Rep K (Own kd O0 σ) H (.bl b) v from h)
  | int b => exact Rep.dp hs.1 hc (show Rep K (Own kd O0 σ) H (.int b) v from h)
  | str b => exact Rep.dp hs.1 hc (show Rep K (Own kd O0 σ) H (.str b) v from h)
  | tup b => exact Rep.dp hs.1 hc (show Rep K (Own kd O0 σ) H (.tup b) v from h)
  | dic b c => exact Rep.dp hs.1 hc (show Rep K (Own kd O0 σ) H (.dic b c) v from h)
  | ins b c => exact Rep.dp hs.1 hc (show Rep K (Own kd O0 σ) H (.ins b c) v from h)
  | scr b => exact Rep.dp hs.1 hc (show Rep K (Own kd O0 σ) H (.scr b) v from h)
theorem D.shp_py {d : D} (h : d.shp = true) : SeqAt.shaped d.py = true := by
  unfold D.shp at h
  rw [Bool.and_eq_true] at h
  exact h.2
def rLenU : R2 := fun x y H Q => ∃ a b xs ys, x = .ref a ∧ y = .ref b ∧ SqL X.K H a xs ∧ SqL X.K H b ys ∧ xs.length ≠ ys.length ∧ Q (.bl false) H
theorem op_eqU (hu : X.A.units + 64 < cLine) : OpR X (compareOp .Eq) (fun x y H Q => rEqD X.K x y H Q ∨ rLenU (X := X) x y H Q) := by
  intro pins s σ H x y v u Q I rx ry h
  rcases h with h | ⟨a, b, xs, ys, rfl, rfl, h1, h2, h3, q⟩
  · exact op_eqD hu pins s σ H x y v u Q I rx ry h
  · obtain rfl : v = Value.ref a := rx
    obtain rfl : u = Value.ref b := ry
    obtain ⟨its, rv, p1, _⟩ := I.list h1
    obtain ⟨its2, rv2, p2, _⟩ := I.list h2
    have l1 := rv.length
    have l2 := rv2.length
    refine SeqAt.eq_list_lengthsAt p1.isList p2.isList ?_ (by omega) ⟨.bl false, H, I, rfl, q⟩
    rw [bne_iff_ne]
    simp
    omega
theorem cmp_sem (c : Ctx k S X) {o : Cop} {o' : CmpOp} (h : copOk o o' = true) : ∃ r, OpR X (compareOp o') r ∧ CmpSem S X o r := by
  have hu : X.A.units + 64 < cLine := c.rm.units
  cases o with
  | eq =>
    cases o' <;> first | cases h | skip
    refine ⟨_, op_eqU hu, fun O0 H0 env σ H d1 d2 d x y Q s e r1 r2 q => ?_⟩
    unfold cmpF at e
    obtain ⟨b, e0, e2⟩ := Option.map_eq_some_iff.mp e
    unfold eqX at e0
    cases e1 : eqD d1 d2 with
    | some c =>
      rw [e1] at e0
      cases e0
      unfold eqD at e1
      split at e1
      · rename_i hs
        rw [Bool.and_eq_true] at hs
        cases e1
        exact .inl ⟨_, _, r1.dp hs.1, r2.dp hs.2, D.shp_py hs.1, D.shp_py hs.2, q _ e2.symm⟩
      · cases e1
    | none =>
      rw [e1] at e0
      have e9 : lenX d1 d2 = some b := e0
      clear e0 e1
      cases d1 <;> first | (cases e9; done) | skip
      cases d2 <;> first | (cases e9; done) | skip
      rename_i l m
      have e0 : (if l.length = m.length then none else some false) = some b := e9
      by_cases hne : l.length = m.length
      · rw [if_pos hne] at e0; cases e0
      · rw [if_neg hne] at e0
        cases e0
        obtain ⟨a, xs, rfl, p1, p2⟩ := r1.lst
        obtain ⟨b, ys, rfl, p3, p4⟩ := r2.lst
        exact .inr ⟨a, b, xs, ys, rfl, rfl, .of p1, .of p3, by rw [p2.len, p4.len]; exact hne, q _ e2.symm⟩
  | ne =>
    cases o' <;> first | cases h | skip
    refine ⟨_, op_neD hu, fun O0 H0 env σ H d1 d2 d x y Q s e r1 r2 q => ?_⟩
    unfold cmpF at e
    obtain ⟨b, e1, e2⟩ := Option.map_eq_some_iff.mp e
    unfold eqD at e1
    split at e1
    · rename_i hs
      rw [Bool.and_eq_true] at hs
      cases e1
      exact ⟨_, _, r1.dp hs.1, r2.dp hs.2, D.shp_py hs.1, D.shp_py hs.2, q _ e2.symm⟩
    · cases e1
  | lt =>
    cases o' <;> first | cases h | skip
    refine ⟨_, op_lt, fun O0 H0 env σ H d1 d2 d x y Q s e r1 r2 q => ?_⟩
    unfold cmpF at e
    split at e <;> first | (rename_i z; cases z; done) | skip
    all_goals first | (cases e; exact ⟨_, _, r1.int, r2.int, q _ rfl⟩) | cases e
  | le =>
    cases o' <;> first | cases h | skip
    refine ⟨_, op_le, fun O0 H0 env σ H d1 d2 d x y Q s e r1 r2 q => ?_⟩
    unfold cmpF at e
    split at e <;> first | (rename_i z; cases z; done) | skip
    all_goals first | (cases e; exact ⟨_, _, r1.int, r2.int, q _ rfl⟩) | cases e
  | gt =>
    cases o' <;> first | cases h | skip
    refine ⟨_, op_gt, fun O0 H0 env σ H d1 d2 d x y Q s e r1 r2 q => ?_⟩
    unfold cmpF at e
    split at e <;> first | (rename_i z; cases z; done) | skip
    all_goals first | (cases e; exact ⟨_, _, r1.int, r2.int, q _ rfl⟩) | cases e
  | ge =>
    cases o' <;> first | cases h | skip
    refine ⟨_, op_ge, fun O0 H0 env σ H d1 d2 d x y Q s e r1 r2 q => ?_⟩
    unfold cmpF at e
    split at e <;> first | (rename_i z; cases z; done) | skip
    all_goals first | (cases e; exact ⟨_, _, r1.int, r2.int, q _ rfl⟩) | cases e
end
end LS
/-! LsH: comparisons, choices, subscripts, displays, built-ins as expressions. -/
namespace LS
open PySem PySem.Spec PyProof.Rows L2

section
variable {k : Nat} {S : Sta} {X : Cx} {K : PySem.W.Frag} {kd : List Kind} {O0 : AS} {H0 H H' Hs : Hp} {env env' : EnD} {σ : L2.St}
theorem copOk_mark {o : Cop} {o' : CmpOp} (h : copOk o o' = true) (b : Expr) : behindInMarks o' b = false := by
  cases o' <;> first | exact nomark b | (cases o <;> cases h)
theorem snd_cmp (c : Ctx k S X) {m : Md} {o : Cop} {o' : CmpOp} {a b : E} {a' b' : Expr} {pos : Pos} (hm : m ≠ .fr) (h : copOk o o' = true) (ha : SndE k S X .vw a a') (hb : SndE k S X .vw b b') : SndE k S X m (.cmp o a b) (.Compare a' [o'] [b'] pos) := by
  obtain ⟨r, ho, hs⟩ := cmp_sem c h
  obtain ⟨ta, pa, ea⟩ := ha
  obtain ⟨tb, pb, eb⟩ := hb
  refine ⟨_, pe_cmpR ho pa pb (copOk_mark h b'), fun O0 H0 env σ H d env' Q s he hf q => ?_⟩
  unfold ev at he
  obtain ⟨⟨d1, e1⟩, h1, he⟩ := bindS he
  obtain ⟨⟨d2, e2⟩, h2, he⟩ := bindS he
  obtain ⟨d', h3, he⟩ := Option.map_eq_some_iff.mp he
  cases he
  refine seq2 (by decide) ea eb (by decide) s h1 h2 fun x y H2 s2 k2 r1 r2 => ?_
  refine hs O0 H0 _ σ H2 d1 d2 d x y Q s2 h3 r1 r2 fun b e => ?_
  subst e
  exact q _ H2 s2 k2 (mBl hm)
theorem sclF_bl {d : D} {b : Bool} (h : sclF d = some b) : d = .bl b := by
  unfold sclF at h
  split at h
  · cases h; rfl
  · cases h
theorem snd_chn (c : Ctx k S X) {m : Md} {o1 o2 : Cop} {p1 p2 : CmpOp} {a b e : E} {a' b' e' : Expr} {pos : Pos} (hm : m ≠ .fr) (h : copOk o1 p1 = true) (h2 : copOk o2 p2 = true) (ha : SndE k S X .vw a a') (hb : SndE k S X .vw b b') (he : SndE k S X .vw e e') :
    SndE k S X m (.chn o1 o2 a b e) (.Compare a' [p1, p2] [b', e'] pos) := by
  obtain ⟨r, ho, hs⟩ := cmp_sem c h
  obtain ⟨r2, ho2, hs2⟩ := cmp_sem c h2
  obtain ⟨ta, pa, ea⟩ := ha
  obtain ⟨tb, pb, eb⟩ := hb
  obtain ⟨te, pe, ee⟩ := he
  refine ⟨_, pe_chain ho ho2 pa pb pe (by show lastMarks [p2] [e'] = false; exact copOk_mark h2 e'), fun O0 H0 env σ H d env' Q s he hf q => ?_⟩
  unfold ev at he
  obtain ⟨⟨d1, e1⟩, g1, he⟩ := bindS he
  obtain ⟨⟨d2, e2⟩, g2, he⟩ := bindS he
  obtain ⟨d3, g3, he⟩ := bindS he
  obtain ⟨kk, g4, he⟩ := bindS he
  refine seq2 (by decide) ea eb (by decide) s g1 g2 fun x y H2 s2 k2 r1 rr2 => ?_
  refine hs O0 H0 _ σ H2 d1 d2 d3 x y _ s2 g3 r1 rr2 fun b0 eb0 => ?_
  have e5 : kk = b0 := by
    have e4 := (sclF_bl g4).symm.trans eb0
    cases e4
    rfl
  clear eb0
  subst e5
  refine ⟨kk, rfl, ?_⟩
  by_cases hb0 : kk = true
  · rw [if_pos hb0] at he ⊢
    obtain ⟨⟨d5, e5⟩, g5, he⟩ := bindS he
    obtain ⟨d6, g6, he⟩ := Option.map_eq_some_iff.mp he
    cases he
    refine ee O0 H0 _ σ H2 d5 e5 _ s2 g5 (fun z => by cases z) fun z H3 s3 k3 r3 => ?_
    refine hs2 O0 H0 _ σ H3 d2 d5 d y z Q s3 g6 (RepV.kp k3 rr2) r3 fun b6 e6 => ?_
    subst e6
    exact q _ H3 s3 (k2.trans k3) (mBl hm)
  · rw [if_neg hb0] at he ⊢
    cases he
    exact q _ H2 s2 k2 (mBl hm)
theorem RepV.non {d : D} {x : V} (h : RepV K kd O0 σ H d x) : decide (x = V.non) = isNonD d := by
  cases d with
  | lst l => obtain ⟨a, xs, e, _⟩ := h; subst e; rfl
  | non => have h2 : Rep K (Own kd O0 σ) H .non x := h; unfold Rep at h2; subst h2; rfl
  | bl b => have h2 : Rep K (Own kd O0 σ) H (.bl b) x := h; unfold Rep at h2; subst h2; rfl
  | int b => have h2 : Rep K (Own kd O0 σ) H (.int b) x := h; unfold Rep at h2; subst h2; rfl
  | str b => have h2 : Rep K (Own kd O0 σ) H (.str b) x := h; unfold Rep at h2; subst h2; rfl
  | tup b => have h2 : Rep K (Own kd O0 σ) H (.tup b) x := h; unfold Rep at h2; obtain ⟨_, _, e, _⟩ := h2; subst e; rfl
  | dic b c => have h2 : Rep K (Own kd O0 σ) H (.dic b c) x := h; unfold Rep at h2; obtain ⟨_, _, e, _⟩ := h2; subst e; rfl
  | ins b c => have h2 : Rep K (Own kd O0 σ) H (.ins b c) x := h; unfold Rep at h2; exact h2.elim
  | scr b => have h2 : Rep K (Own kd O0 σ) H (.scr b) x := h; unfold Rep at h2; obtain ⟨_, e, _⟩ := h2; subst e; rfl
theorem snd_isN {m : Md} {a : E} {a' : Expr} {j : Nat} {p1 pos : Pos} (hm : m ≠ .fr) (ha : SndE k S X .vw a a') : SndE k S X m (.isN a) (.Compare a' [.Is] [.Constant .none j p1] pos) := by
  obtain ⟨ta, pa, ea⟩ := ha
  refine ⟨_, pe_cmpR op_isN pa pe_non (nomark _), fun O0 H0 env σ H d env' Q s he hf q => ?_⟩
  unfold ev at he
  obtain ⟨⟨d1, e1⟩, h1, he⟩ := Option.map_eq_some_iff.mp he
  cases he
  refine ea O0 H0 env σ H d1 _ _ s h1 (fun z => by cases z) fun x H1 s1 k1 r1 => ?_
  have r2 : RepV X.K S.kd O0 σ H1 d1 x := r1
  refine ⟨rfl, ?_⟩
  rw [r2.non]
  exact q _ H1 s1 k1 (mBl hm)
theorem snd_isNN {m : Md} {a : E} {a' : Expr} {j : Nat} {p1 pos : Pos} (hm : m ≠ .fr) (ha : SndE k S X .vw a a') : SndE k S X m (.isNN a) (.Compare a' [.IsNot] [.Constant .none j p1] pos) := by
  obtain ⟨ta, pa, ea⟩ := ha
  refine ⟨_, pe_cmpR op_notN pa pe_non (nomark _), fun O0 H0 env σ H d env' Q s he hf q => ?_⟩
  unfold ev at he
  obtain ⟨⟨d1, e1⟩, h1, he⟩ := Option.map_eq_some_iff.mp he
  cases he
  refine ea O0 H0 env σ H d1 _ _ s h1 (fun z => by cases z) fun x H1 s1 k1 r1 => ?_
  have r2 : RepV X.K S.kd O0 σ H1 d1 x := r1
  refine ⟨rfl, ?_⟩
  rw [r2.non]
  exact q _ H1 s1 k1 (mBl hm)
theorem snd_ife {m : Md} {c a b : E} {c' a' b' : Expr} {pos : Pos} (hc : SndB k S X c c') (ha : SndE k S X m a a') (hb : SndE k S X m b b') : SndE k S X m (.ife c a b) (.IfExp c' a' b' pos) := by
  obtain ⟨tc, pc, ec⟩ := hc
  obtain ⟨ta, pa, ea⟩ := ha
  obtain ⟨tb, pb, eb⟩ := hb
  refine ⟨_, pe_ifExp pc pa pb, fun O0 H0 env σ H d env' Q s he hf q => ?_⟩
  unfold ev at he
  obtain ⟨⟨b0, e1⟩, h1, he⟩ := bindS he
  refine ec O0 H0 env σ H b0 e1 _ s h1 fun H1 s1 k1 => ?_
  have fin : ∀ v H', SR X.K S.kd O0 H0 env' σ H' → Kp S.kd σ H1 H' → MRep X.K S.kd O0 σ m H1 H' d v → Q v H' := fun v H' s2 k2 r2 => by
    refine q v H' s2 (k1.trans k2) ?_
    cases m with
    | str => exact r2
    | vw => exact r2
    | fr =>
      obtain ⟨a0, l, xs, e0, e00, n, r⟩ := r2
      exact ⟨a0, l, xs, e0, e00, s.free s1 k1 n, r⟩
  by_cases hb0 : b0 = true
  · rw [if_pos hb0] at he ⊢
    exact ea O0 H0 e1 σ H1 d env' Q s1 he hf fin
  · rw [if_neg hb0] at he ⊢
    exact eb O0 H0 e1 σ H1 d env' Q s1 he hf fin
theorem snd_and {a b : E} {a' c' : Expr} {rest : List Expr} {pos : Pos} (ha : SndE k S X .str a a') (hb : SndE k S X .str b (.BoolOp .And (c' :: rest) pos)) : SndE k S X .str (.and a b) (.BoolOp .And (a' :: c' :: rest) pos) := by
  obtain ⟨ta, pa, ea⟩ := ha
  obtain ⟨tb, pb, eb⟩ := hb
  refine ⟨_, pe_and pa pb, fun O0 H0 env σ H d env' Q s he hf q => ?_⟩
  unfold ev at he
  obtain ⟨⟨d1, e1⟩, h1, he⟩ := bindS he
  obtain ⟨b0, h2, he⟩ := bindS he
  have e0 := sclF_bl h2
  subst e0
  refine ea O0 H0 env σ H _ e1 _ s h1 (fun z => by cases z) fun x H1 s1 k1 r1 => ?_
  refine ⟨b0, Rep.scal_bl (K := X.K) (O := Own S.kd O0 σ) (H := H1) r1, ?_⟩
  by_cases hb0 : b0 = true
  · rw [if_pos hb0] at he ⊢
    exact eb O0 H0 e1 σ H1 d env' Q s1 he hf fun v H' s2 k2 r2 => q v H' s2 (k1.trans k2) r2
  · rw [if_neg hb0] at he ⊢
    cases he
    exact q _ H1 s1 k1 (mBl (by decide))
theorem snd_or {a b : E} {a' c' : Expr} {rest : List Expr} {pos : Pos} (ha : SndE k S X .str a a') (hb : SndE k S X .str b (.BoolOp .Or (c' :: rest) pos)) : SndE k S X .str (.or a b) (.BoolOp .Or (a' :: c' :: rest) pos) := by
  obtain ⟨ta, pa, ea⟩ := ha
  obtain ⟨tb, pb, eb⟩ := hb
  refine ⟨_, pe_or pa pb, fun O0 H0 env σ H d env' Q s he hf q => ?_⟩
  unfold ev at he
  obtain ⟨⟨d1, e1⟩, h1, he⟩ := bindS he
  obtain ⟨b0, h2, he⟩ := bindS he
  have e0 := sclF_bl h2
  subst e0
  refine ea O0 H0 env σ H _ e1 _ s h1 (fun z => by cases z) fun x H1 s1 k1 r1 => ?_
  refine ⟨b0, Rep.scal_bl (K := X.K) (O := Own S.kd O0 σ) (H := H1) r1, ?_⟩
  by_cases hb0 : b0 = true
  · rw [if_pos hb0] at he ⊢
    cases he
    exact q _ H1 s1 k1 (mBl (by decide))
  · rw [if_neg hb0] at he ⊢
    exact eb O0 H0 e1 σ H1 d env' Q s1 he hf fun v H' s2 k2 r2 => q v H' s2 (k1.trans k2) r2
theorem snd_one {m : Md} {op : BoolOp} {b : E} {c' : Expr} {pos : Pos} (hb : SndE k S X m b c') : SndE k S X m b (.BoolOp op [c'] pos) := let ⟨t, p, e⟩ := hb; ⟨t, pe_one p, e⟩

/-! ### subscripts -/
theorem Reps.atI {O : AS} {l : List D} {xs : List V} {i : Int} {d : D} (h : Reps K O H l xs) (e : L2.atI l i = some d) : ∃ v, L2.atI xs i = some v ∧ Rep K O H d v := by
  unfold L2.atI at e ⊢
  obtain ⟨j, h1, h2⟩ := bindS e
  obtain ⟨v, h3, h4⟩ := h.get h2
  rw [h.len, h1]
  exact ⟨v, h3, h4⟩
theorem atI_map {α β : Type} (f : α → β) (l : List α) (i : Int) : L2.atI (l.map f) i = (L2.atI l i).map f := by
  unfold L2.atI
  rw [List.length_map]
  cases ixN l.length i with
  | none => rfl
  | some j => simp
theorem ixF_inv {d1 d2 d : D} (h : ixF d1 d2 = some d) : ∃ n, d2 = .int n ∧ ((∃ l, d1 = .lst l ∧ L2.atI l n = some d) ∨ (∃ l, d1 = .tup l ∧ L2.atI l n = some d) ∨ ∃ l m, d1 = .scr l ∧ L2.atI l n = some m ∧ d = .int m) := by
  cases d2 <;> cases d1 <;> first | cases h | skip
  · exact ⟨_, rfl, .inr (.inl ⟨_, rfl, h⟩)⟩
  · exact ⟨_, rfl, .inl ⟨_, rfl, h⟩⟩
  · obtain ⟨m, h1, h2⟩ := Option.map_eq_some_iff.mp (show (L2.atI _ _).map D.int = some d from h)
    exact ⟨_, rfl, .inr (.inr ⟨_, m, rfl, h1, h2.symm⟩)⟩
theorem slF_inv {d1 d : D} {lo hi : Option Int} (h : slF d1 lo hi = some d) : (∃ l, d1 = .lst l ∧ d = .lst (cutD l lo hi)) ∨ (∃ l, d1 = .tup l ∧ d = .tup (cutD l lo hi)) ∨ ∃ l, d1 = .scr l ∧ d = .lst ((cutD l lo hi).map .int) := by
  cases d1 <;> cases h
  · exact .inr (.inl ⟨_, rfl, rfl⟩)
  · exact .inl ⟨_, rfl, rfl⟩
  · exact .inr (.inr ⟨_, rfl, rfl⟩)
theorem plainIx {b : Expr} (h : noSlice b = true) : PlainIx b := fun _ _ => by
  cases b <;> first | rfl | cases h
theorem snd_ix {m : Md} {a i : E} {a' i' : Expr} {pos : Pos} (hm : m ≠ .fr) (hn : noSlice i' = true) (ha : SndE k S X .vw a a') (hi : SndE k S X .vw i i') : SndE k S X m (.ix a i) (.Subscript a' i' pos) := by
  obtain ⟨ta, pa, ea⟩ := ha
  obtain ⟨ti, pi, ei⟩ := hi
  refine ⟨_, pe_ix (ix_list.or ix_tup) pa pi (plainIx hn), fun O0 H0 env σ H d env' Q s he hf q => ?_⟩
  unfold ev at he
  obtain ⟨⟨d1, e1⟩, h1, he⟩ := bindS he
  obtain ⟨⟨d2, e2⟩, h2, he⟩ := bindS he
  obtain ⟨d', h3, he⟩ := Option.map_eq_some_iff.mp he
  cases he
  refine seq2 (by decide) ea ei (by decide) s h1 h2 fun x y H2 s2 k2 r1 r2 => ?_
  have r1 : RepV X.K S.kd O0 σ H2 d1 x := r1
  have r2 : RepV X.K S.kd O0 σ H2 d2 y := r2
  obtain ⟨n2, rfl, hx⟩ := ixF_inv h3
  rcases hx with ⟨l, rfl, h4⟩ | ⟨l, rfl, h4⟩ | ⟨l, n, rfl, h4, rfl⟩
  · obtain ⟨p, xs, rfl, e, rr⟩ := r1.lst
    obtain ⟨v, h5, h6⟩ := rr.atI h4
    exact .inl ⟨p, xs, _, v, rfl, r2.int, SqL.of e, h5, q v H2 s2 k2 (.of_s hm h6)⟩
  · obtain ⟨p, xs, rfl, e, rr⟩ := r1.tup
    obtain ⟨v, h5, h6⟩ := rr.atI h4
    exact .inr ⟨p, xs, _, v, rfl, r2.int, e, h5, q v H2 s2 k2 (.of_s hm h6)⟩
  · obtain ⟨p, rfl, e⟩ := r1.scr
    exact .inl ⟨p, _, _, .int n, rfl, r2.int, e, by rw [atI_map, h4]; rfl, q _ H2 s2 k2 (mInt hm)⟩
/-- of a list that is changed in place, by a written place -/
theorem snd_ixo (c : Ctx k S X) {m : Md} {j : Nat} {i : Int} {x : Str} {p1 pos : Pos} {i' : Expr} (hm : m ≠ .fr) (hj : S.kd[j]? = some .io) (hn : S.nm j x = true) (hsl : noSlice i' = true) (hi : chk S .vw (.int i) i' = true) : SndE k S X m (.ix (.v j) (.int i)) (.Subscript (.Name x p1) i' pos) := by
  have pi : PE X i' (tC (.int i)) := by
    unfold chk at hi
    split at hi <;> first | cases hi | skip
    all_goals (rename_i z; first | cases z | skip)
    all_goals first
      | (rw [Bool.and_eq_true] at hi; have := of_decide_eq_true hi.1; subst this; exact pe_int)
      | skip
  refine ⟨_, pe_ix ix_list (nm_pe c hn) pi (plainIx hsl), fun O0 H0 env σ H d env' Q s he hf q => ?_⟩
  unfold ev at he
  obtain ⟨⟨d1, e1⟩, h1, he⟩ := bindS he
  obtain ⟨⟨d2, e2⟩, h2, he⟩ := bindS he
  obtain ⟨d', h3, he⟩ := Option.map_eq_some_iff.mp he
  cases he
  unfold ev at h1 h2
  cases h2
  obtain ⟨d0, g1, g2⟩ := Option.map_eq_some_iff.mp h1
  cases g2
  obtain ⟨a, ns, rfl, ha, hH⟩ := s.io j _ hj (getE_some g1)
  unfold ixF at h3
  have h4 : L2.atI (ns.map D.int) i = some d := h3
  rw [atI_map] at h4
  obtain ⟨n, h5, h6⟩ := Option.map_eq_some_iff.mp h4
  subst h6
  exact ⟨.ref a, ha, a, _, i, .int n, rfl, rfl, SqL.of hH, by rw [atI_map, h5]; rfl, q _ H s .refl (mInt hm)⟩
theorem snd_o_no : SndO k S X .no none := ⟨_, po_none, fun O0 H0 env σ H o env' Q s he q => by
  unfold evO at he
  cases he
  exact q H s .refl⟩
theorem snd_o_so {e : E} {a : Expr} (h : SndE k S X .vw e a) : SndO k S X (.so e) (some a) := by
  obtain ⟨t, p, ee⟩ := h
  refine ⟨_, po_some p, fun O0 H0 env σ H o env' Q s he q => ?_⟩
  unfold evO at he
  obtain ⟨⟨d1, e1⟩, h1, he⟩ := bindS he
  refine ee O0 H0 env σ H d1 e1 _ s h1 (fun z => by cases z) fun x H1 s1 k1 r1 => ?_
  have r1 : RepV X.K S.kd O0 σ H1 d1 x := r1
  cases d1 <;> first | cases he | skip
  exact ⟨_, r1.int, q H1 s1 k1⟩
theorem Reps.cut {O : AS} {l : List D} {xs : List V} {lo hi : Option Int} (h : Reps K O H l xs) : Reps K O H (cutD l lo hi) (cutV xs lo hi) := by
  unfold cutD cutV
  rw [h.len]
  exact (h.drop _).take _
theorem cut_map {α β : Type} (f : α → β) (l : List α) (lo hi : Option Int) : cutD (l.map f) lo hi = (cutD l lo hi).map f := by
  unfold cutD
  rw [List.length_map, List.map_take, List.map_drop]
theorem cutV_D (xs : List V) (lo hi : Option Int) : cutV xs lo hi = cutD xs lo hi := rfl
theorem snd_sl {m : Md} {a : E} {lo hi : EO} {a' : Expr} {lo' hi' : Option Expr} {p2 pos : Pos} (ha : SndE k S X .vw a a') (hlo : SndO k S X lo lo') (hhi : SndO k S X hi hi') : SndE k S X m (.sl a lo hi) (.Subscript a' (.Slice lo' hi' none p2) pos) := by
  obtain ⟨ta, pa, ea⟩ := ha
  obtain ⟨tl, pl, el⟩ := hlo
  obtain ⟨th, ph, eh⟩ := hhi
  refine ⟨_, pe_slice (sl_list.or sl_tupA) pa pl ph, fun O0 H0 env σ H d env' Q s he hf q => ?_⟩
  unfold ev at he
  obtain ⟨⟨d1, e1⟩, h1, he⟩ := bindS he
  obtain ⟨⟨o1, e2⟩, h2, he⟩ := bindS he
  obtain ⟨⟨o2, e3⟩, h3, he⟩ := bindS he
  obtain ⟨d', h4, he⟩ := Option.map_eq_some_iff.mp he
  cases he
  refine ea O0 H0 env σ H d1 e1 _ s h1 (fun z => by cases z) fun x H1 s1 k1 r1 => ?_
  refine el O0 H0 e1 σ H1 o1 e2 _ s1 h2 fun H2 s2 k2 => ?_
  refine eh O0 H0 e2 σ H2 o2 _ _ s2 h3 fun H3 s3 k3 => ?_
  have r1 : RepV X.K S.kd O0 σ H3 d1 x := RepV.kp k3 (RepV.kp k2 r1)
  have k13 := k1.trans (k2.trans k3)
  have fr : ∀ p, H3 p = none → H p = none := fun p n => s.free s3 k13 n
  rcases slF_inv h4 with ⟨l, rfl, rfl⟩ | ⟨l, rfl, rfl⟩ | ⟨l, rfl, rfl⟩
  · obtain ⟨p, xs, rfl, e, rr⟩ := r1.lst
    exact .inl ⟨p, xs, rfl, SqL.of e, fun p n => q _ _ (s3.laid n) (k13.trans (.laid n)) (mLst s3 (fr p n) n rr.cut)⟩
  · have hm : m ≠ .fr := nf hf (by intro l z; cases z)
    have w1 : Rep X.K (Own S.kd O0 σ) H3 (.tup l) x := r1
    obtain ⟨p, xs, rfl, e, rr⟩ := r1.tup
    refine .inr ⟨p, xs, rfl, e, fun hw => ?_, fun _ p n => q _ _ (s3.laid n) (k13.trans (.laid n)) (.of_s hm (rep_newT s3 n rr.cut))⟩
    have ec : cutD l o1 o2 = l := by
      rw [rr.len] at hw
      unfold cutD
      rw [hw.1, hw.2, List.drop_zero, Nat.sub_zero, List.take_length]
    rw [ec] at q
    exact q _ H3 s3 k13 (.of_s hm w1)
  · obtain ⟨p, rfl, e⟩ := r1.scr
    refine .inl ⟨p, _, rfl, e, fun p n => ?_⟩
    rw [cutV_D, cut_map]
    exact q _ _ (s3.laid n) (k13.trans (.laid n)) (mLst s3 (fr p n) n .ints)

/-! ### displays -/
theorem snd_l_nil {m : Md} : SndL k S X m .nil [] := ⟨_, pa_nil, fun O0 H0 env σ H ds env' Q s he q => by
  unfold evL at he
  cases he
  exact q [] H s .refl rfl⟩
theorem snd_l_cons {m : Md} {e : E} {r : EL} {a : Expr} {as : List Expr} (hm : m ≠ .fr) (hn : noStar a = true) (h : SndE k S X m e a) (hr : SndL k S X m r as) : SndL k S X m (.cons e r) (a :: as) := by
  obtain ⟨t, p, ee⟩ := h
  obtain ⟨tr, pr, er⟩ := hr
  refine ⟨_, pa_cons p pr (star1 hn), fun O0 H0 env σ H ds env' Q s he q => ?_⟩
  unfold evL at he
  obtain ⟨⟨d1, e1⟩, h1, he⟩ := bindS he
  obtain ⟨⟨d2, e2⟩, h2, he⟩ := Option.map_eq_some_iff.mp he
  cases he
  refine ee O0 H0 env σ H d1 e1 _ s h1 (fun z => absurd z hm) fun x H1 s1 k1 r1 => ?_
  refine er O0 H0 e1 σ H1 d2 _ _ s1 h2 fun vs H2 s2 k2 r2 => ?_
  exact q _ H2 s2 (k1.trans k2) ⟨x, vs, rfl, MRep.kp hm k2 r1, r2⟩
theorem evL_len : ∀ {es : EL} {env env' : EnD} {ds : List D} {as : List Expr} {m : Md}, chkL S m es as = true → evL (run S.P k) S.P.gl es env = some (ds, env') → ds.length = as.length
  | .nil, env, env', ds, as, m, h, he => by
    unfold evL at he
    cases he
    unfold chkL at h
    cases as <;> first | rfl | cases h
  | .cons e r, env, env', ds, as, m, h, he => by
    unfold evL at he
    obtain ⟨⟨d1, e1⟩, h1, he⟩ := bindS he
    obtain ⟨⟨d2, e2⟩, h2, he⟩ := Option.map_eq_some_iff.mp he
    cases he
    cases as with
    | nil => unfold chkL at h; cases h
    | cons a as =>
      unfold chkL at h
      rw [Bool.and_eq_true] at h
      rw [List.length_cons, List.length_cons, evL_len h.2 h2]
theorem snd_tup {m : Md} {es : EL} {as : List Expr} {x1 : Nat} {pos : Pos} (hm : m ≠ .fr) (hc : chkL S .str es as = true) (hz : as.length ≤ 1000) (h : SndL k S X .str es as) : SndE k S X m (.tup es) (.Tuple as x1 pos) := by
  obtain ⟨t, p, ee⟩ := h
  refine ⟨_, pe_tup p, fun O0 H0 env σ H d env' Q s he hf q => ?_⟩
  unfold ev at he
  obtain ⟨⟨d1, e1⟩, h1, he⟩ := Option.map_eq_some_iff.mp he
  cases he
  refine ee O0 H0 env σ H d1 _ _ s h1 fun vs H1 s1 k1 r1 => ?_
  have r2 := r1.str
  refine ⟨okLen (by rw [r2.len, evL_len hc h1]; omega), fun p n => ?_⟩
  exact q _ _ (s1.laid n) (k1.trans (.laid n)) (.of_s hm (rep_newT s1 n r2))
theorem rep_newD {ks : List Key} {l : List D} {kvs : List (Key × V)} {p : Addr} (s : SR K kd O0 H0 env σ H) (n : H p = none) (hk : kvs.map (·.1) = ks) (r : Reps K (Own kd O0 σ) H l (kvs.map (·.2))) : Rep K (Own kd O0 σ) (upd H p (.dK kvs)) (.dic ks l) (.ref p) := by
  unfold Rep
  refine ⟨p, kvs, rfl, upd_same, fun z => ?_, hk, r.mono fun b o h hn => ⟨upd_keeps n b o h, hn⟩⟩
  obtain ⟨ys, z2⟩ := s.olst p z
  rw [n] at z2
  cases z2
theorem snd_dic0 {m : Md} {pos : Pos} (hm : m ≠ .fr) : SndE k S X m .dic0 (.Dict [] [] pos) := by
  refine ⟨_, pe_dnewK, fun O0 H0 env σ H d env' Q s he hf q => ?_⟩
  unfold ev at he
  cases he
  intro p n
  exact q _ _ (s.laid n) (.laid n) (.of_s hm (rep_newD (kvs := []) s n rfl (by unfold Reps; rfl)))
theorem snd_dic1 {m : Md} {x : Str} {i : Int} {j1 j2 : Nat} {p1 p2 pos : Pos} (hm : m ≠ .fr) : SndE k S X m (.dic1 x i) (.Dict [some (.Constant (.str x) j1 p1)] [.Constant (.int i) j2 p2] pos) := by
  refine ⟨_, pe_disp (pps_cons pe_str pe_int pps_nil) rfl rfl (by simp) (by simp), fun O0 H0 env σ H d env' Q s he hf q => ?_⟩
  unfold ev at he
  cases he
  intro p n
  refine ⟨upd_same, [(.inr x, .int i)], rfl, by simp, ?_⟩
  have e : mergeK [] [((.inr x : Key), V.int i)] = [(.inr x, .int i)] := rfl
  rw [e, upd_upd]
  exact q _ _ (s.laid n) (.laid n) (.of_s hm (rep_newD (kvs := [(.inr x, .int i)]) s n rfl ⟨_, _, rfl, by unfold Rep; rfl, by unfold Reps; rfl⟩))
theorem snd_lst {m : Md} {es : EL} {as : List Expr} {pos : Pos} (hc : chkL S .str es as = true) (hz : as.length ≤ 1000) (h : SndL k S X .str es as) : SndE k S X m (.lst es) (.List as pos) := by
  obtain ⟨t, p, ee⟩ := h
  refine ⟨_, pe_lst p, fun O0 H0 env σ H d env' Q s he hf q => ?_⟩
  unfold ev at he
  obtain ⟨⟨d1, e1⟩, h1, he⟩ := Option.map_eq_some_iff.mp he
  cases he
  refine ee O0 H0 env σ H d1 _ _ s h1 fun vs H1 s1 k1 r1 => ?_
  have r2 := r1.str
  refine ⟨okLen (by rw [r2.len, evL_len hc h1]; omega), fun p n => ?_⟩
  exact q _ _ (s1.laid n) (k1.trans (.laid n)) (mLst s1 (s.free s1 k1 n) n r2)
end
end LS
/-! LsI: built-in functions, isinstance. -/
namespace LS
open PySem PySem.Spec PyProof.Rows L2

section
variable {k : Nat} {S : Sta} {X : Cx} {K : PySem.W.Frag} {kd : List Kind} {O0 : AS} {H0 H H' Hs : Hp} {env env' : EnD} {σ : L2.St}
abbrev RC := List V → Hp → VK → Prop
def BiSem (S : Sta) (X : Cx) (b : Bi) (r : RC) : Prop := ∀ (O0 : AS) (H0 : Hp) (env : EnD) (σ : L2.St) (Hs H : Hp) (ds : List D) (vs : List V) (d : D) (Q : VK) (m : Md), SR X.K S.kd O0 H0 env σ H → (∀ p, H p = none → Hs p = none) → biF b ds = some d →
  MReps X.K S.kd O0 σ .vw H ds vs → (m ≠ .fr ∨ b = .list) → (∀ v H', SR X.K S.kd O0 H0 env σ H' → Kp S.kd σ H H' → MRep X.K S.kd O0 σ m Hs H' d v → Q v H') → r vs H Q
theorem vw1 {d : D} {vs : List V} (h : MReps K kd O0 σ .vw H [d] vs) : ∃ v, vs = [v] ∧ RepV K kd O0 σ H d v := h.one
theorem vw2 {d e : D} {vs : List V} (h : MReps K kd O0 σ .vw H [d, e] vs) : ∃ v w, vs = [v, w] ∧ RepV K kd O0 σ H d v ∧ RepV K kd O0 σ H e w := h.two
theorem bi_len : BiSem S X .len (fun xs H Q => ∃ p ys, xs = [.ref p] ∧ (SqL X.K H p ys ∨ SqT X.K H p ys) ∧ Q (.int ys.length) H) := by
  intro O0 H0 env σ Hs H ds vs d Q m s fr e rr hm q
  have hm : m ≠ .fr := hm.resolve_right (by decide)
  have e : lenF ds = some d := e
  unfold lenF at e
  split at e <;> first | (cases e; done) | skip
  · rename_i l
    cases e
    obtain ⟨v, rfl, r⟩ := vw1 rr
    obtain ⟨a, xs, rfl, e, p⟩ := r.lst
    exact ⟨a, xs, rfl, .inl (SqL.of e), by rw [p.len]; exact q _ H s .refl (mInt hm)⟩
  · rename_i l
    cases e
    obtain ⟨v, rfl, r⟩ := vw1 rr
    obtain ⟨a, xs, rfl, e, p⟩ := r.tup
    exact ⟨a, xs, rfl, .inr e, by rw [p.len]; exact q _ H s .refl (mInt hm)⟩
  · rename_i l
    cases e
    obtain ⟨v, rfl, r⟩ := vw1 rr
    obtain ⟨a, rfl, e⟩ := r.scr
    exact ⟨a, _, rfl, .inl e, by rw [List.length_map]; exact q _ H s .refl (mInt hm)⟩
theorem biI {b : Bi} {g : Int → Int} {r : RC} (hb : b ≠ .list) (he : ∀ ds d, biF b ds = some d → ∃ i, ds = [.int i] ∧ d = .int (g i)) (hr : ∀ i H Q, Q (.int (g i)) H → r [.int i] H Q) : BiSem S X b r := by
  intro O0 H0 env σ Hs H ds vs d Q m s fr e rr hm q
  have hm : m ≠ .fr := hm.resolve_right hb
  obtain ⟨i, rfl, rfl⟩ := he ds d e
  obtain ⟨v, rfl, r⟩ := vw1 rr
  rw [r.int]
  exact hr i H Q (q _ H s .refl (mInt hm))
theorem biI2 {b : Bi} {g : Int → Int → Int} {r : RC} (hb : b ≠ .list) (he : ∀ ds d, biF b ds = some d → ∃ i j, ds = [.int i, .int j] ∧ d = .int (g i j)) (hr : ∀ i j H Q, Q (.int (g i j)) H → r [.int i, .int j] H Q) : BiSem S X b r := by
  intro O0 H0 env σ Hs H ds vs d Q m s fr e rr hm q
  have hm : m ≠ .fr := hm.resolve_right hb
  obtain ⟨i, j, rfl, rfl⟩ := he ds d e
  obtain ⟨v, w, rfl, r, r2⟩ := vw2 rr
  rw [r.int, r2.int]
  exact hr i j H Q (q _ H s .refl (mInt hm))
theorem absF_inv {ds : List D} {d : D} (h : absF ds = some d) : ∃ i, ds = [.int i] ∧ d = .int (if i < 0 then -i else i) := by
  unfold absF at h
  split at h
  · cases h; exact ⟨_, rfl, rfl⟩
  · cases h
theorem intF_inv {ds : List D} {d : D} (h : intF ds = some d) : ∃ i, ds = [.int i] ∧ d = .int i := by
  unfold intF at h
  split at h
  · cases h; exact ⟨_, rfl, rfl⟩
  · cases h
theorem max2F_inv {ds : List D} {d : D} (h : max2F ds = some d) : ∃ i j, ds = [.int i, .int j] ∧ d = .int (if j > i then j else i) := by
  unfold max2F at h
  split at h
  · cases h; exact ⟨_, _, rfl, rfl⟩
  · cases h
theorem min2F_inv {ds : List D} {d : D} (h : min2F ds = some d) : ∃ i j, ds = [.int i, .int j] ∧ d = .int (if j < i then j else i) := by
  unfold min2F at h
  split at h
  · cases h; exact ⟨_, _, rfl, rfl⟩
  · cases h
theorem gcdF_inv {ds : List D} {d : D} (h : gcdF ds = some d) : ∃ i j, ds = [.int i, .int j] ∧ d = .int ((Nat.gcd i.natAbs j.natAbs : Nat) : Int) := by
  unfold gcdF at h
  split at h
  · cases h; exact ⟨_, _, rfl, rfl⟩
  · cases h
theorem bi_abs : BiSem S X .abs (fun xs H Q => ∃ i, xs = [.int i] ∧ Q (.int (if i < 0 then -i else i)) H) := biI (g := fun i => if i < 0 then -i else i) (by decide) (fun ds d h => absF_inv h) fun i H Q q => ⟨i, rfl, q⟩
theorem bi_int : BiSem S X .int (fun xs H Q => (∃ i, xs = [.int i] ∧ Q (.int i) H) ∨ ∃ k, xs = [.bl k] ∧ Q (.int (if k then 1 else 0)) H) := biI (g := fun i => i) (by decide) (fun ds d h => intF_inv h) fun i H Q q => .inl ⟨i, rfl, q⟩
theorem bi_str : BiSem S X .str (fun xs H Q => ∃ i, xs = [.int i] ∧ i.natAbs.log2 < 1920 ∧ Q (.str (toString i)) H) := by
  intro O0 H0 env σ Hs H ds vs d Q m s fr e rr hm q
  have hm : m ≠ .fr := hm.resolve_right (by decide)
  replace e : strF ds = some d := e
  unfold strF at e
  split at e <;> first | (cases e; done) | skip
  split at e
  · rename_i i hz
    cases e
    obtain ⟨v, rfl, r⟩ := vw1 rr
    rw [r.int]
    exact ⟨i, rfl, hz, q _ H s .refl (.of_s hm (by unfold Rep; rfl))⟩
  · cases e
theorem bi_max : BiSem S X .max2 (fun xs H Q => ∃ i j, xs = [.int i, .int j] ∧ Q (.int (if j > i then j else i)) H) := biI2 (g := fun i j => if j > i then j else i) (by decide) (fun ds d h => max2F_inv h) fun i j H Q q => ⟨i, j, rfl, q⟩
theorem bi_min : BiSem S X .min2 (fun xs H Q => ∃ i j, xs = [.int i, .int j] ∧ Q (.int (if j < i then j else i)) H) := biI2 (g := fun i j => if j < i then j else i) (by decide) (fun ds d h => min2F_inv h) fun i j H Q q => ⟨i, j, rfl, q⟩
theorem bi_gcd : BiSem S X .gcd rGcd := biI2 (g := fun i j => ((Nat.gcd i.natAbs j.natAbs : Nat) : Int)) (by decide) (fun ds d h => gcdF_inv h) fun i j H Q q => ⟨i, j, rfl, q⟩
theorem bi_tuple : BiSem S X .tuple (fun xs H Q => ∃ p ys, xs = [.ref p] ∧ ((SqL X.K H p ys ∧ ∀ l, H l = none → Q (.ref l) (upd H l (.tup ys))) ∨ (SqT X.K H p ys ∧ Q (.ref p) H))) := by
  intro O0 H0 env σ Hs H ds vs d Q m s fr e rr hm q
  have hm : m ≠ .fr := hm.resolve_right (by decide)
  have hi : (∃ l, ds = [.lst l] ∧ d = .tup l) ∨ ∃ l, ds = [.tup l] ∧ d = .tup l := by
    have e : tupleF ds = some d := e
    unfold tupleF at e
    split at e
    · cases e; exact .inl ⟨_, rfl, rfl⟩
    · cases e; exact .inr ⟨_, rfl, rfl⟩
    · cases e
  rcases hi with ⟨l, rfl, rfl⟩ | ⟨l, rfl, rfl⟩
  · obtain ⟨v, rfl, r⟩ := vw1 rr
    obtain ⟨a, xs, rfl, e, p⟩ := r.lst
    exact ⟨a, xs, rfl, .inl ⟨SqL.of e, fun p0 n => q _ _ (s.laid n) (.laid n) (.of_s hm (rep_newT s n p))⟩⟩
  · obtain ⟨v, rfl, r⟩ := vw1 rr
    have w : Rep X.K (Own S.kd O0 σ) H (.tup l) v := r
    obtain ⟨a, xs, rfl, e, p⟩ := r.tup
    exact ⟨a, xs, rfl, .inr ⟨e, q _ H s .refl (.of_s hm w)⟩⟩
theorem bi_list : BiSem S X .list (fun xs H Q => ∃ p ys, xs = [.ref p] ∧ (SqL X.K H p ys ∨ SqT X.K H p ys) ∧ ∀ l, H l = none → Q (.ref l) (upd H l (.lst ys))) := by
  intro O0 H0 env σ Hs H ds vs d Q m s fr e rr hm q
  have hi : (∃ l, ds = [.lst l] ∧ d = .lst l) ∨ ∃ l, ds = [.tup l] ∧ d = .lst l := by
    have e : listF ds = some d := e
    unfold listF at e
    split at e
    · cases e; exact .inl ⟨_, rfl, rfl⟩
    · cases e; exact .inr ⟨_, rfl, rfl⟩
    · cases e
  rcases hi with ⟨l, rfl, rfl⟩ | ⟨l, rfl, rfl⟩
  · obtain ⟨v, rfl, r⟩ := vw1 rr
    obtain ⟨a, xs, rfl, e, p⟩ := r.lst
    exact ⟨a, xs, rfl, .inl (SqL.of e), fun p0 n => q _ _ (s.laid n) (.laid n) (mLst s (fr p0 n) n p)⟩
  · obtain ⟨v, rfl, r⟩ := vw1 rr
    obtain ⟨a, xs, rfl, e, p⟩ := r.tup
    exact ⟨a, xs, rfl, .inr e, fun p0 n => q _ _ (s.laid n) (.laid n) (mLst s (fr p0 n) n p)⟩
theorem bi_sum : BiSem S X .sum (rSum X.K) := by
  intro O0 H0 env σ Hs H ds vs d Q m s fr e rr hm q
  have hm : m ≠ .fr := hm.resolve_right (by decide)
  have hi : ∃ l ns, ds = [.lst l] ∧ intsD l = some ns ∧ d = .int ns.sum := by
    have e : sumF ds = some d := e
    unfold sumF at e
    split at e <;> first | (cases e; done) | skip
    obtain ⟨ns, h1, h2⟩ := Option.map_eq_some_iff.mp e
    exact ⟨_, ns, rfl, h1, h2.symm⟩
  obtain ⟨l, ns, rfl, h1, rfl⟩ := hi
  obtain ⟨v, rfl, r⟩ := vw1 rr
  obtain ⟨a, xs, rfl, e, p⟩ := r.lst
  obtain ⟨_, rfl⟩ := ints_of h1 p
  exact ⟨a, ns, rfl, SqL.of e, q _ H s .refl (mInt hm)⟩
theorem bi_all : BiSem S X .all (rAll X.K) := by
  intro O0 H0 env σ Hs H ds vs d Q m s fr e rr hm q
  have hm : m ≠ .fr := hm.resolve_right (by decide)
  have hi : ∃ l ns, ds = [.lst l] ∧ blsD l = some ns ∧ d = .bl (ns.all id) := by
    have e : allF ds = some d := e
    unfold allF at e
    split at e <;> first | (cases e; done) | skip
    obtain ⟨ns, h1, h2⟩ := Option.map_eq_some_iff.mp e
    exact ⟨_, ns, rfl, h1, h2.symm⟩
  obtain ⟨l, ns, rfl, h1, rfl⟩ := hi
  obtain ⟨v, rfl, r⟩ := vw1 rr
  obtain ⟨a, xs, rfl, e, p⟩ := r.lst
  obtain rfl := bls_of h1 p
  exact ⟨a, ns, rfl, SqL.of e, q _ H s .refl (mBl hm)⟩
theorem bi_any : BiSem S X .any (rAny X.K) := by
  intro O0 H0 env σ Hs H ds vs d Q m s fr e rr hm q
  have hm : m ≠ .fr := hm.resolve_right (by decide)
  have hi : ∃ l ns, ds = [.lst l] ∧ blsD l = some ns ∧ d = .bl (ns.any id) := by
    have e : anyF ds = some d := e
    unfold anyF at e
    split at e <;> first | (cases e; done) | skip
    obtain ⟨ns, h1, h2⟩ := Option.map_eq_some_iff.mp e
    exact ⟨_, ns, rfl, h1, h2.symm⟩
  obtain ⟨l, ns, rfl, h1, rfl⟩ := hi
  obtain ⟨v, rfl, r⟩ := vw1 rr
  obtain ⟨a, xs, rfl, e, p⟩ := r.lst
  obtain rfl := bls_of h1 p
  exact ⟨a, ns, rfl, SqL.of e, q _ H s .refl (mBl hm)⟩
theorem RepV.shows {d : D} {v : V} (h : RepV K kd O0 σ H d v) : Shows K H d v := by
  cases d with
  | lst l =>
    obtain ⟨a, xs, rfl, e, p⟩ := h.lst
    exact .inr ⟨l, a, xs, _, rfl, rfl, e, p⟩
  | _ => exact .inl ⟨Own kd O0 σ, h⟩
theorem bi_repr : BiSem S X .repr (fun xs H Q => ∃ (d : D) (v : V) (y : D), xs = [v] ∧ Shows X.K H d v ∧ reprD d = some y ∧ ∀ z, y = .str z → Q (.str z) H) := by
  intro O0 H0 env σ Hs H ds vs d Q m s fr e rr hm q
  have hm : m ≠ .fr := hm.resolve_right (by decide)
  have hi : ∃ d0, ds = [d0] ∧ reprD d0 = some d := by
    have e : reprF ds = some d := e
    unfold reprF at e
    split at e
    · exact ⟨_, rfl, e⟩
    · cases e
  obtain ⟨d0, rfl, h1⟩ := hi
  obtain ⟨v, rfl, r⟩ := vw1 rr
  refine ⟨d0, v, d, rfl, r.shows, h1, fun z ez => ?_⟩
  subst ez
  exact q _ H s .refl (mStr hm)
theorem biName_ne (b : Bi) : biName b ≠ "__name__" := by cases b <;> decide
theorem biName_db (b : Bi) : (biName b == ("__debug__" : Str)) = false := by cases b <;> decide
theorem snd_bi (c : Ctx k S X) {m : Md} {b : Bi} {es : EL} {x : Str} {args : List Expr} {p pos : Pos} (hx : x = biName b) (hg : isGl S.sc x = true) (hbl : (if b = .gcd then S.gcd else decide (x ∈ S.bl)) = true) (hs : args.all noStar = true) (hne : args ≠ []) (hm : m ≠ .fr ∨ b = .list)
    (h : SndL k S X .vw es args) : SndE k S X m (.bi b es) (.Call (.Name x p) args [] pos) := by
  obtain ⟨t, pa, ee⟩ := h
  cases args with
  | nil => exact absurd rfl hne
  | cons a as =>
    rw [List.all_cons, Bool.and_eq_true] at hs
    have gl := gl_of c hg
    subst hx
    have core : ∀ r : RC, BiSem S X b r → PE X (.Call (.Name (biName b) p) (a :: as) [] pos) (tCB r t) → SndE k S X m (.bi b es) (.Call (.Name (biName b) p) (a :: as) [] pos) := by
      intro r hb hp
      refine ⟨_, hp, fun O0 H0 env σ H d env' Q s he hf q => ?_⟩
      unfold ev at he
      obtain ⟨⟨d1, e1⟩, h1, he⟩ := bindS he
      obtain ⟨d', h2, he⟩ := Option.map_eq_some_iff.mp he
      cases he
      refine ee O0 H0 env σ H d1 _ _ s h1 fun vs H1 s1 k1 r1 => ?_
      exact hb O0 H0 _ σ H H1 d1 vs d Q m s1 (fun p n => s.free s1 k1 n) h2 r1 hm fun v H' s2 k2 r2 => q v H' s2 (k1.trans k2) r2
    have mg : b ≠ .gcd → X.mg (biName b) = none := fun hb => by
      rw [if_neg hb] at hbl
      exact c.bl _ (of_decide_eq_true hbl)
    cases b with
    | len => exact core _ bi_len (pe_callB call_len_seq gl (mg (by decide)) PySem.boot_len pa (biName_ne .len) (biName_db .len) (star1 hs.1) (star2 hs.2 _ _))
    | abs => exact core _ bi_abs (pe_callB call_abs gl (mg (by decide)) (by decide +kernel) pa (biName_ne .abs) (biName_db .abs) (star1 hs.1) (star2 hs.2 _ _))
    | int => exact core _ bi_int (pe_callTy call_int1 gl (mg (by decide)) (by decide +kernel) pa (biName_ne .int) (biName_db .int) (star1 hs.1) (star2 hs.2 _ _))
    | max2 => exact core _ bi_max (pe_callB (call_max2 c.cm) gl (mg (by decide)) (by decide +kernel) pa (biName_ne .max2) (biName_db .max2) (star1 hs.1) (star2 hs.2 _ _))
    | min2 => exact core _ bi_min (pe_callB (call_min2 c.cm) gl (mg (by decide)) (by decide +kernel) pa (biName_ne .min2) (biName_db .min2) (star1 hs.1) (star2 hs.2 _ _))
    | tuple => exact core _ bi_tuple (pe_callTy call_tuple_of gl (mg (by decide)) (by decide +kernel) pa (biName_ne .tuple) (biName_db .tuple) (star1 hs.1) (star2 hs.2 _ _))
    | list => exact core _ bi_list (pe_callTy call_list_of gl (mg (by decide)) (by decide +kernel) pa (biName_ne .list) (biName_db .list) (star1 hs.1) (star2 hs.2 _ _))
    | sum => exact core _ bi_sum (pe_callB (cr_sum c.cm) gl (mg (by decide)) (by decide +kernel) pa (biName_ne .sum) (biName_db .sum) (star1 hs.1) (star2 hs.2 _ _))
    | all => exact core _ bi_all (pe_callB (cr_all c.cm) gl (mg (by decide)) (by decide +kernel) pa (biName_ne .all) (biName_db .all) (star1 hs.1) (star2 hs.2 _ _))
    | any => exact core _ bi_any (pe_callB (cr_any c.cm) gl (mg (by decide)) (by decide +kernel) pa (biName_ne .any) (biName_db .any) (star1 hs.1) (star2 hs.2 _ _))
    | repr => exact core _ bi_repr (pe_callB (cr_reprD c.gd c.rm) gl (mg (by decide)) (by decide +kernel) pa (biName_ne .repr) (biName_db .repr) (star1 hs.1) (star2 hs.2 _ _))
    | str => exact core _ bi_str (pe_callTy call_str_int gl (mg (by decide)) (by decide +kernel) pa (biName_ne .str) (biName_db .str) (star1 hs.1) (star2 hs.2 _ _))
    | gcd => exact core _ bi_gcd (pe_callBfun cr_gcd gl (c.gc hbl) pa (biName_db .gcd) (star1 hs.1) (star2 hs.2 _ _))

/-! ### isinstance -/
def tyOk (ty : String) : Bool := decide (ty ∈ ["int", "bool", "tuple", "list", "str"])
theorem Rep.ty {O : AS} {d : D} {v : V} {t : String} (h : Rep K O H d v) (e : tyOf d = some t) : TyX K H v (.type t) := by
  cases d with
  | non => unfold Rep at h; subst h; cases e; exact .base .non
  | bl b => unfold Rep at h; subst h; cases e; exact .base (.bl b)
  | int b => unfold Rep at h; subst h; cases e; exact .base (.int b)
  | str b => unfold Rep at h; subst h; cases e; exact .base (.str b)
  | tup l =>
    unfold Rep at h
    obtain ⟨a, xs, rfl, p, _⟩ := h
    cases e
    rcases p with ⟨p | ⟨o, p⟩, _⟩ | p
    · exact .base (.tup p)
    · exact .fTuple p
    · rcases p with p | ⟨o, its, n, h1, h2, _⟩
      · exact (noRd p).elim
      · exact .kTuple h1 h2
  | lst l =>
    unfold Rep at h
    obtain ⟨a, xs, rfl, p, _⟩ := h
    cases e
    exact .base (.lst p.1)
  | dic ks l =>
    unfold Rep at h
    obtain ⟨a, kvs, rfl, p, _⟩ := h
    cases e
    exact .base (.dK p)
  | ins _ _ => unfold Rep at h; exact h.elim
  | scr _ => cases e
theorem RepV.ty {d : D} {v : V} {t : String} (h : RepV K kd O0 σ H d v) (e : tyOf d = some t) : TyX K H v (.type t) := by
  cases d with
  | lst l =>
    obtain ⟨a, xs, rfl, e2, p⟩ := h.lst
    cases e
    exact .base (.lst e2)
  | non => exact Rep.ty (show Rep K (Own kd O0 σ) H .non v from h) e
  | bl b => exact Rep.ty (show Rep K (Own kd O0 σ) H (.bl b) v from h) e
  | int b => exact Rep.ty (show Rep K (Own kd O0 σ) H (.int b) v from h) e
  | str b => exact Rep.ty (show Rep K (Own kd O0 σ) H (.str b) v from h) e
  | tup b => exact Rep.ty (show Rep K (Own kd O0 σ) H (.tup b) v from h) e
  | dic b c => exact Rep.ty (show Rep K (Own kd O0 σ) H (.dic b c) v from h) e
  | ins b c => exact Rep.ty (show Rep K (Own kd O0 σ) H (.ins b c) v from h) e
  | scr b => exact Rep.ty (show Rep K (Own kd O0 σ) H (.scr b) v from h) e
theorem snd_isi (c : Ctx k S X) {m : Md} {ty : String} {a : E} {a' : Expr} {x y : Str} {p p2 pos : Pos} (hm : m ≠ .fr) (hx : x = ("isinstance" : Str)) (hg : isGl S.sc x = true) (hbl : x ∈ S.bl) (hy : y = Str.ofString ty) (hg2 : isGl S.sc y = true) (hbl2 : y ∈ S.bl) (hty : tyOk ty = true) (hs : noStar a' = true)
    (h : SndE k S X .vw a a') : SndE k S X m (.isi ty a) (.Call (.Name x p) [a', .Name y p2] [] pos) := by
  obtain ⟨ta, pa, ea⟩ := h
  have pt : PE X (.Name y p2) (tC (.ty ty)) := by
    subst hy
    have hb : bootBuiltins (Str.ofString ty) = some (.type ty) ∧ Str.ofString ty ≠ "__name__" ∧ (Str.ofString ty == ("__debug__" : Str)) = false := by
      have hm := of_decide_eq_true hty
      simp only [List.mem_cons, List.not_mem_nil, or_false] at hm
      rcases hm with rfl | rfl | rfl | rfl | rfl <;> exact ⟨by decide +kernel, by decide, by decide⟩
    exact pe_bltn (gl_of c hg2) (c.bl _ hbl2) hb.1 (show RelV (.ty ty) (.type ty) from rfl) hb.2.1 hb.2.2
  subst hx
  refine ⟨_, pe_callB call_isi (gl_of c hg) (c.bl _ hbl) PyProof.Rows.boot_isinstance (pa_cons pa (pa_cons pt pa_nil (star1 rfl)) (star1 hs)) (by decide) (by decide) (star1 hs) (star2 rfl _ _), fun O0 H0 env σ H d env' Q s he hf q => ?_⟩
  unfold ev at he
  obtain ⟨⟨d1, e1⟩, h1, he⟩ := bindS he
  obtain ⟨d', h2, he⟩ := Option.map_eq_some_iff.mp he
  cases he
  refine ea O0 H0 env σ H d1 _ _ s h1 (fun z => by cases z) fun v H1 s1 k1 r1 => ?_
  have r1 : RepV X.K S.kd O0 σ H1 d1 v := r1
  unfold isiF at h2
  obtain ⟨t, h3, h4⟩ := bindS h2
  obtain ⟨b, h5, h6⟩ := Option.map_eq_some_iff.mp h4
  subst h6
  exact ⟨v, .ty ty, .type t, .type ty, b, rfl, .ty ty, r1.ty h3, kit_ty h5, q _ H1 s1 k1 (mBl hm)⟩
end
end LS
/-! LsJ: tests. -/
namespace LS
open PySem PySem.Spec PyProof.Rows L2

section
variable {k : Nat} {S : Sta} {X : Cx} {K : PySem.W.Frag} {kd : List Kind} {O0 : AS} {H0 H H' Hs : Hp} {env env' : EnD} {σ : L2.St}
/-- a test's look; of a chain of and, or whatever stands around -/
def SndBW (k : Nat) (S : Sta) (X : Cx) (e : E) (a : Expr) : Prop := ∃ t, PT X a t ∧ ((∃ op vs p, a = .BoolOp op vs p) → PW X a t) ∧ BOk k S X e t
theorem SndBW.b {e : E} {a : Expr} (h : SndBW k S X e a) : SndB k S X e a := let ⟨t, p, _, e⟩ := h; ⟨t, p, e⟩
theorem RepV.tru {d : D} {v : V} {b : Bool} (h : RepV K kd O0 σ H d v) (e : truF d = some b) : TruV K v H b := by
  cases d with
  | non => have h2 : Rep K (Own kd O0 σ) H .non v := h; unfold Rep at h2; subst h2; cases e; exact rfl
  | bl x => have h2 := h.bl; subst h2; cases e; exact rfl
  | int x => have h2 := h.int; subst h2; cases e; exact rfl
  | str x => cases e
  | lst l =>
    obtain ⟨a, xs, rfl, e2, p⟩ := h.lst
    cases e
    refine .inl ⟨xs, SqL.of e2, ?_⟩
    have := p.len
    cases xs <;> cases l <;> first | rfl | cases this
  | tup l =>
    obtain ⟨a, xs, rfl, e2, p⟩ := h.tup
    cases e
    refine .inr (.inl ⟨xs, e2, ?_⟩)
    have := p.len
    cases xs <;> cases l <;> first | rfl | cases this
  | dic _ _ => cases e
  | ins _ _ => cases e
  | scr _ => cases e
theorem snd_tru {e : E} {a : Expr} (hn : ¬ ∃ op vs p, a = .BoolOp op vs p) (h : SndE k S X .vw e a) (ht : ∀ env, tst (run S.P k) S.P.gl e env = (ev (run S.P k) S.P.gl e env).bind fun p => (truF p.1).map fun b => (b, p.2))
    (he : ∀ whole, isTrue a X.env whole = (do let v ← whole; standAt a.pos; holding [v] (truthy v))) : SndBW k S X e a := by
  obtain ⟨t, p, ee⟩ := h
  refine ⟨_, pt_truth p he, fun z => absurd z hn, fun O0 H0 env σ H b env' Q s h q => ?_⟩
  rw [ht] at h
  obtain ⟨⟨d1, e1⟩, h1, h⟩ := bindS h
  obtain ⟨b', h2, h⟩ := Option.map_eq_some_iff.mp h
  cases h
  refine ee O0 H0 env σ H d1 _ _ s h1 (fun z => by cases z) fun v H1 s1 k1 r1 => ?_
  exact ⟨b, RepV.tru r1 h2, q H1 s1 k1⟩
theorem b_not {a : E} {a' : Expr} {pos : Pos} (h : SndB k S X a a') : SndBW k S X (.not a) (.UnaryOp .Not a' pos) := by
  obtain ⟨t, p, ee⟩ := h
  refine ⟨_, pt_not p, (fun ⟨_, _, _, z⟩ => nomatch z), fun O0 H0 env σ H b env' Q s h q => ?_⟩
  unfold tst at h
  obtain ⟨⟨d1, e1⟩, h1, h⟩ := Option.map_eq_some_iff.mp h
  cases h
  exact ee O0 H0 env σ H d1 _ _ s h1 fun H1 s1 k1 => q H1 s1 k1
theorem b_and {a b : E} {a' c' : Expr} {rest : List Expr} {pos : Pos} (ha : SndB k S X a a') (hb : SndBW k S X b (.BoolOp .And (c' :: rest) pos)) : SndBW k S X (.and a b) (.BoolOp .And (a' :: c' :: rest) pos) := by
  obtain ⟨t, p, ee⟩ := ha
  obtain ⟨t2, _, p2, ee2⟩ := hb
  have pw := pw_and p (p2 ⟨_, _, _, rfl⟩)
  refine ⟨_, pw.pt, fun _ => pw, fun O0 H0 env σ H b env' Q s h q => ?_⟩
  unfold tst at h
  obtain ⟨⟨b1, e1⟩, h1, h⟩ := bindS h
  refine ee O0 H0 env σ H b1 e1 _ s h1 fun H1 s1 k1 => ?_
  by_cases hb : b1 = true
  · rw [if_pos hb] at h ⊢
    exact ee2 O0 H0 e1 σ H1 b env' Q s1 h fun H2 s2 k2 => q H2 s2 (k1.trans k2)
  · rw [if_neg hb] at h ⊢
    cases h
    exact q H1 s1 k1
theorem b_or {a b : E} {a' c' : Expr} {rest : List Expr} {pos : Pos} (ha : SndB k S X a a') (hb : SndBW k S X b (.BoolOp .Or (c' :: rest) pos)) : SndBW k S X (.or a b) (.BoolOp .Or (a' :: c' :: rest) pos) := by
  obtain ⟨t, p, ee⟩ := ha
  obtain ⟨t2, _, p2, ee2⟩ := hb
  have pw := pw_or p (p2 ⟨_, _, _, rfl⟩)
  refine ⟨_, pw.pt, fun _ => pw, fun O0 H0 env σ H b env' Q s h q => ?_⟩
  unfold tst at h
  obtain ⟨⟨b1, e1⟩, h1, h⟩ := bindS h
  refine ee O0 H0 env σ H b1 e1 _ s h1 fun H1 s1 k1 => ?_
  by_cases hb : b1 = true
  · rw [if_pos hb] at h ⊢
    cases h
    exact q H1 s1 k1
  · rw [if_neg hb] at h ⊢
    exact ee2 O0 H0 e1 σ H1 b env' Q s1 h fun H2 s2 k2 => q H2 s2 (k1.trans k2)
theorem b_one {op : BoolOp} {b : E} {c' : Expr} {pos : Pos} (hb : SndB k S X b c') : SndBW k S X b (.BoolOp op [c'] pos) := by
  obtain ⟨t, p, ee⟩ := hb
  cases op with
  | And => exact ⟨t, (pw_and1 p).pt, fun _ => pw_and1 p, ee⟩
  | Or => exact ⟨t, (pw_or1 p).pt, fun _ => pw_or1 p, ee⟩
theorem b_cmp (c : Ctx k S X) {o : Cop} {o' : CmpOp} {a b : E} {a' b' : Expr} {pos : Pos} (h : copOk o o' = true) (ha : SndE k S X .vw a a') (hb : SndE k S X .vw b b') : SndBW k S X (.cmp o a b) (.Compare a' [o'] [b'] pos) := by
  obtain ⟨r, ho, hs⟩ := cmp_sem c h
  obtain ⟨ta, pa, ea⟩ := ha
  obtain ⟨tb, pb, eb⟩ := hb
  refine ⟨_, pt_cmpR ho pa pb (copOk_mark h b'), (fun ⟨_, _, _, z⟩ => nomatch z), fun O0 H0 env σ H b0 env' Q s he q => ?_⟩
  unfold tst at he
  obtain ⟨⟨d1, e1⟩, h1, he⟩ := bindS he
  obtain ⟨⟨d2, e2⟩, h2, he⟩ := bindS he
  obtain ⟨d3, h3, he⟩ := bindS he
  obtain ⟨kk, h4, he⟩ := Option.map_eq_some_iff.mp he
  cases he
  refine seq2 (by decide) ea eb (by decide) s h1 h2 fun x y H2 s2 k2 r1 r2 => ?_
  refine hs O0 H0 _ σ H2 d1 d2 d3 x y _ s2 h3 r1 r2 fun b e => ?_
  have e5 : b0 = b := by
    have e4 := (sclF_bl h4).symm.trans e
    cases e4
    rfl
  exact ⟨b, rfl, by rw [← e5]; exact q H2 s2 k2⟩
theorem b_chn (c : Ctx k S X) {o1 o2 : Cop} {p1 p2 : CmpOp} {a b e : E} {a' b' e' : Expr} {pos : Pos} (h : copOk o1 p1 = true) (h2 : copOk o2 p2 = true) (ha : SndE k S X .vw a a') (hb : SndE k S X .vw b b') (he : SndE k S X .vw e e') :
    SndBW k S X (.chn o1 o2 a b e) (.Compare a' [p1, p2] [b', e'] pos) := by
  obtain ⟨r, ho, hs⟩ := cmp_sem c h
  obtain ⟨r2, ho2, hs2⟩ := cmp_sem c h2
  obtain ⟨ta, pa, ea⟩ := ha
  obtain ⟨tb, pb, eb⟩ := hb
  obtain ⟨te, pe, ee⟩ := he
  refine ⟨_, pt_chain ho ho2 pa pb pe (by show lastMarks [p2] [e'] = false; exact copOk_mark h2 e'), (fun ⟨_, _, _, z⟩ => nomatch z), fun O0 H0 env σ H b00 env' Q s he q => ?_⟩
  unfold tst at he
  obtain ⟨⟨d1, e1⟩, g1, he⟩ := bindS he
  obtain ⟨⟨d2, e2⟩, g2, he⟩ := bindS he
  obtain ⟨d3, g3, he⟩ := bindS he
  obtain ⟨kk, g4, he⟩ := bindS he
  refine seq2 (by decide) ea eb (by decide) s g1 g2 fun x y H2 s2 k2 r1 rr2 => ?_
  refine hs O0 H0 _ σ H2 d1 d2 d3 x y _ s2 g3 r1 rr2 fun b0 eb0 => ?_
  have e5 : kk = b0 := by
    have e4 := (sclF_bl g4).symm.trans eb0
    cases e4
    rfl
  clear eb0
  subst e5
  refine ⟨kk, rfl, ?_⟩
  by_cases hb0 : kk = true
  · rw [if_pos hb0] at he ⊢
    obtain ⟨⟨d5, e5⟩, g5, he⟩ := bindS he
    obtain ⟨d6, g6, he⟩ := bindS he
    obtain ⟨k6, g7, he⟩ := Option.map_eq_some_iff.mp he
    cases he
    refine ee O0 H0 _ σ H2 d5 e5 _ s2 g5 (fun z => by cases z) fun z H3 s3 k3 r3 => ?_
    refine hs2 O0 H0 _ σ H3 d2 d5 d6 y z _ s3 g6 (RepV.kp k3 rr2) r3 fun b6 e6 => ?_
    have e8 : b00 = b6 := by
      have e4 := (sclF_bl g7).symm.trans e6
      cases e4
      rfl
    exact ⟨b6, rfl, by rw [← e8]; exact q H3 s3 (k2.trans k3)⟩
  · rw [if_neg hb0] at he ⊢
    cases he
    exact ⟨false, rfl, q H2 s2 k2⟩
theorem b_isN {a : E} {a' : Expr} {j : Nat} {p1 pos : Pos} (ha : SndE k S X .vw a a') : SndBW k S X (.isN a) (.Compare a' [.Is] [.Constant .none j p1] pos) := by
  obtain ⟨ta, pa, ea⟩ := ha
  refine ⟨_, pt_cmpR op_isN pa pe_non (nomark _), (fun ⟨_, _, _, z⟩ => nomatch z), fun O0 H0 env σ H b0 env' Q s he q => ?_⟩
  unfold tst at he
  obtain ⟨⟨d1, e1⟩, h1, he⟩ := Option.map_eq_some_iff.mp he
  cases he
  refine ea O0 H0 env σ H d1 _ _ s h1 (fun z => by cases z) fun x H1 s1 k1 r1 => ?_
  have r2 : RepV X.K S.kd O0 σ H1 d1 x := r1
  exact ⟨rfl, _, rfl, by rw [r2.non]; exact q H1 s1 k1⟩
theorem b_isNN {a : E} {a' : Expr} {j : Nat} {p1 pos : Pos} (ha : SndE k S X .vw a a') : SndBW k S X (.isNN a) (.Compare a' [.IsNot] [.Constant .none j p1] pos) := by
  obtain ⟨ta, pa, ea⟩ := ha
  refine ⟨_, pt_cmpR op_notN pa pe_non (nomark _), (fun ⟨_, _, _, z⟩ => nomatch z), fun O0 H0 env σ H b0 env' Q s he q => ?_⟩
  unfold tst at he
  obtain ⟨⟨d1, e1⟩, h1, he⟩ := Option.map_eq_some_iff.mp he
  cases he
  refine ea O0 H0 env σ H d1 _ _ s h1 (fun z => by cases z) fun x H1 s1 k1 r1 => ?_
  have r2 : RepV X.K S.kd O0 σ H1 d1 x := r1
  exact ⟨rfl, _, rfl, by rw [r2.non]; exact q H1 s1 k1⟩

/-! ### the arguments of an own def -/
theorem a_nil : PA X [] tNil ∧ AOk k S X .nil tNil := ⟨pa_nil, fun O0 H0 env σ H ds env' Q s he q => by
  unfold evA at he
  cases he
  exact q [] H s .refl rfl⟩
theorem AReps.kp {H1 H2 : Hp} (kp : Kp kd σ H1 H2) : ∀ {as : AL} {ds : List D} {vs : List V}, AReps K kd O0 σ H1 as ds vs → AReps K kd O0 σ H2 as ds vs
  | .nil, [], _, h => h
  | .val _ r, d :: ds, _, h => by
    obtain ⟨v, vr, e, p, q⟩ := h
    exact ⟨v, vr, e, p.mono kp.stays, AReps.kp kp q⟩
  | .bor i r, _ :: ds, _, h => by
    obtain ⟨v, vr, e, p, q⟩ := h
    exact ⟨v, vr, e, p, AReps.kp kp q⟩
  | .io i r, _ :: ds, _, h => by
    obtain ⟨v, vr, e, p, q⟩ := h
    exact ⟨v, vr, e, p, AReps.kp kp q⟩
  | .nil, _ :: _, _, h => h.elim
  | .val _ _, [], _, h => h.elim
  | .bor _ _, [], _, h => h.elim
  | .io _ _, [], _, h => h.elim
theorem a_val {e : E} {r : AL} {a : Expr} {as : List Expr} (hn : noStar a = true) (h : SndE k S X .str e a) (hr : ∃ t, PA X as t ∧ AOk k S X r t) : ∃ t, PA X (a :: as) t ∧ AOk k S X (.val e r) t := by
  obtain ⟨t, p, ee⟩ := h
  obtain ⟨tr, pr, er⟩ := hr
  refine ⟨_, pa_cons p pr (star1 hn), fun O0 H0 env σ H ds env' Q s he q => ?_⟩
  unfold evA at he
  obtain ⟨⟨d1, e1⟩, h1, he⟩ := bindS he
  obtain ⟨⟨d2, e2⟩, h2, he⟩ := Option.map_eq_some_iff.mp he
  cases he
  refine ee O0 H0 env σ H d1 e1 _ s h1 (fun z => by cases z) fun x H1 s1 k1 r1 => ?_
  refine er O0 H0 e1 σ H1 d2 _ _ s1 h2 fun vs H2 s2 k2 r2 => ?_
  exact q _ H2 s2 (k1.trans k2) ⟨x, vs, rfl, Rep.mono k2.stays r1, r2⟩
theorem SR.has {i : Nat} {d : D} (s : SR K kd O0 H0 env σ H) (ho : isOwn kd i) (h : getE env i = some d) : ∃ a, At σ i a := by
  rcases ho with ho | ho
  · obtain ⟨a, l, xs, _, h1, _⟩ := s.lc i d ho (getE_some h)
    exact ⟨a, h1⟩
  · obtain ⟨a, ns, _, h1, _⟩ := s.io i d ho (getE_some h)
    exact ⟨a, h1⟩
theorem a_bor (c : Ctx k S X) {i : Nat} {x : Str} {p : Pos} {r : AL} {as : List Expr} (hn : S.nm i x = true) (ho : isOwn S.kd i) (hr : ∃ t, PA X as t ∧ AOk k S X r t) : ∃ t, PA X (.Name x p :: as) t ∧ AOk k S X (.bor i r) t ∧ AOk k S X (.io i r) t := by
  obtain ⟨tr, pr, er⟩ := hr
  refine ⟨_, pa_cons (nm_pe c hn) pr (star1 rfl), fun O0 H0 env σ H ds env' Q s he q => ?_, fun O0 H0 env σ H ds env' Q s he q => ?_⟩
  all_goals
    unfold evA at he
    obtain ⟨d0, h0, he⟩ := bindS he
    obtain ⟨⟨d2, e2⟩, h2, he⟩ := Option.map_eq_some_iff.mp he
    cases he
    obtain ⟨a, ha⟩ := s.has ho h0
    refine ⟨.ref a, ha, ?_⟩
    refine er O0 H0 env σ H d2 _ _ s h2 fun vs H2 s2 k2 r2 => ?_
    exact q _ H2 s2 k2 ⟨.ref a, vs, rfl, ha, r2⟩
end
end LS
/-! LsK: calls of own defs. -/
namespace LS
open PySem PySem.Spec PyProof.Rows L2

section
variable {k : Nat} {S : Sta} {X : Cx} {K : PySem.W.Frag} {kd : List Kind} {O0 : AS} {H0 H H' Hs : Hp} {env env' : EnD} {σ : L2.St}
def borsA : AL → List Nat
  | .nil => []
  | .bor i r => i :: borsA r
  | .val _ r => borsA r
  | .io _ r => borsA r
def iosA : AL → List Nat
  | .nil => []
  | .io i r => i :: iosA r
  | .val _ r => iosA r
  | .bor _ r => iosA r
/-- a list that is lent -/
def Lent (σ : L2.St) (as : AL) : AS := fun b => ∃ i ∈ borsA as, At σ i b
def OL (kd : List Kind) (O0 : AS) (σ : L2.St) (L : AS) : AS := fun b => Own kd O0 σ b ∧ ¬ L b
theorem noIo_ios {i : Nat} : ∀ {as : AL}, noIo i as = true → i ∉ iosA as
  | .nil, _ => fun z => by cases z
  | .io j r, h => by
    unfold noIo at h
    rw [Bool.and_eq_true] at h
    intro z
    rcases List.mem_cons.mp z with e | e
    · exact (of_decide_eq_true h.1) e
    · exact noIo_ios h.2 e
  | .val _ r, h => by unfold noIo at h; exact noIo_ios (as := r) h
  | .bor _ r, h => by unfold noIo at h; exact noIo_ios (as := r) h
/-- the arguments as the callee sees them -/
theorem args_ok (s : SR K S.kd O0 H0 env σ H) (L : AS) : ∀ {pk : List Kind} {as : AL} {args : List Expr} {ds1 ds : List D} {vs : List V}, chkA S pk as args = true → AReps K S.kd O0 σ H as ds1 vs → fillA as ds1 env = some ds → (∀ i ∈ borsA as, ∀ b, At σ i b → L b) →
    vs.length = pk.length ∧ ARep K (OL S.kd O0 σ L) H pk ds vs ∧ (∀ b, IoV pk vs b → ∃ i ∈ iosA as, S.kd[i]? = some .io ∧ At σ i b) ∧
    (∀ (i j : Nat) (a : Addr), pk[i]? = some .io → pk[j]? = some .io → vs[i]? = some (.ref a) → vs[j]? = some (.ref a) → i = j)
  | [], .nil, [], ds1, ds, vs, _, hr, hf, _ => by
    cases ds1 with
    | cons _ _ => exact hr.elim
    | nil =>
      unfold AReps at hr
      unfold fillA at hf
      subst hr
      cases hf
      exact ⟨rfl, rfl, fun b ⟨i, h, _⟩ => by simp at h, fun i j a h => by simp at h⟩
  | .val :: pk, .val e r, a :: as, ds1, ds, vs, hc, hr, hf, hl => by
    unfold chkA at hc
    simp only [Bool.and_eq_true] at hc
    cases ds1 with
    | nil => exact hr.elim
    | cons d ds1 =>
      obtain ⟨v, vr, rfl, p, q⟩ := hr
      unfold fillA at hf
      obtain ⟨ds2, h2, rfl⟩ := Option.map_eq_some_iff.mp hf
      obtain ⟨g1, g2, g3, g4⟩ := args_ok s L hc.2 q h2 hl
      refine ⟨by rw [List.length_cons, List.length_cons, g1], ⟨v, vr, rfl, p.mono (fun b o h n => ⟨h, fun z => n z.1⟩), g2⟩, fun b ⟨i, h3, h4⟩ => ?_, fun i j a h3 h4 h5 h6 => ?_⟩
      · cases i with
        | zero => simp at h3
        | succ i => exact g3 b ⟨i, by simpa using h3, by simpa using h4⟩
      · cases i with
        | zero => simp at h3
        | succ i =>
          cases j with
          | zero => simp at h4
          | succ j => rw [g4 i j a (by simpa using h3) (by simpa using h4) (by simpa using h5) (by simpa using h6)]
  | .val :: pk, .bor n r, e0 :: as, ds1, ds, vs, hc, hr, hf, hl => by
    unfold chkA at hc
    simp only [Bool.and_eq_true, decide_eq_true_eq] at hc
    cases ds1 with
    | nil => exact hr.elim
    | cons d ds1 =>
      obtain ⟨v, vr, rfl, p, q⟩ := hr
      unfold fillA at hf
      obtain ⟨d0, h0, hf⟩ := bindS hf
      obtain ⟨ds2, h2, rfl⟩ := Option.map_eq_some_iff.mp hf
      obtain ⟨g1, g2, g3, g4⟩ := args_ok s L hc.2 q h2 (fun i hi => hl i (List.mem_cons_of_mem _ hi))
      obtain ⟨a, l, xs, rfl, ha, hH, _, rr⟩ := s.lc n d0 hc.1.2 (getE_some h0)
      have ev : v = .ref a := by
        unfold At at ha
        rw [ha] at p
        cases p
        rfl
      subst ev
      refine ⟨by rw [List.length_cons, List.length_cons, g1], ⟨.ref a, vr, rfl, ?_, g2⟩, fun b ⟨i, h3, h4⟩ => ?_, fun i j a h3 h4 h5 h6 => ?_⟩
      · unfold Rep
        exact ⟨a, xs, rfl, ⟨hH, fun z => z.2 (hl n List.mem_cons_self a ha)⟩, rr.mono fun b o h n => ⟨h, fun z => n z.1⟩⟩
      · cases i with
        | zero => simp at h3
        | succ i => exact g3 b ⟨i, by simpa using h3, by simpa using h4⟩
      · cases i with
        | zero => simp at h3
        | succ i =>
          cases j with
          | zero => simp at h4
          | succ j => rw [g4 i j a (by simpa using h3) (by simpa using h4) (by simpa using h5) (by simpa using h6)]
  | .io :: pk, .io n r, e0 :: as, ds1, ds, vs, hc, hr, hf, hl => by
    unfold chkA at hc
    simp only [Bool.and_eq_true, decide_eq_true_eq] at hc
    cases ds1 with
    | nil => exact hr.elim
    | cons d ds1 =>
      obtain ⟨v, vr, rfl, p, q⟩ := hr
      unfold fillA at hf
      obtain ⟨d0, h0, hf⟩ := bindS hf
      obtain ⟨ds2, h2, rfl⟩ := Option.map_eq_some_iff.mp hf
      obtain ⟨g1, g2, g3, g4⟩ := args_ok s L hc.2 q h2 hl
      obtain ⟨a, ns, rfl, ha, hH⟩ := s.io n d0 hc.1.1.2 (getE_some h0)
      have ev : v = .ref a := by
        unfold At at ha
        rw [ha] at p
        cases p
        rfl
      subst ev
      have ni := noIo_ios hc.1.2
      have apart : ∀ (j : Nat), pk[j]? = some .io → vr[j]? = some (.ref a) → False := fun j h3 h4 => by
        obtain ⟨i2, hi2, hk2, ha2⟩ := g3 a ⟨j, h3, h4⟩
        have := s.dj n i2 a (.inr hc.1.1.2) (.inr hk2) ha ha2
        subst this
        exact ni hi2
      refine ⟨by rw [List.length_cons, List.length_cons, g1], ⟨a, ns, vr, rfl, rfl, hH, g2⟩, fun b ⟨i, h3, h4⟩ => ?_, fun i j b h3 h4 h5 h6 => ?_⟩
      · cases i with
        | zero =>
          have e : a = b := by simpa using h4
          subst e
          exact ⟨n, List.mem_cons_self, hc.1.1.2, ha⟩
        | succ i =>
          obtain ⟨i2, hi2, hk2, ha2⟩ := g3 b ⟨i, by simpa using h3, by simpa using h4⟩
          exact ⟨i2, List.mem_cons_of_mem _ hi2, hk2, ha2⟩
      · cases i with
        | zero =>
          cases j with
          | zero => rfl
          | succ j =>
            have e : a = b := by simpa using h5
            subst e
            exact (apart j (by simpa using h4) (by simpa using h6)).elim
        | succ i =>
          cases j with
          | zero =>
            have e : a = b := by simpa using h6
            subst e
            exact (apart i (by simpa using h3) (by simpa using h5)).elim
          | succ j => rw [g4 i j b (by simpa using h3) (by simpa using h4) (by simpa using h5) (by simpa using h6)]
  | [], .nil, _ :: _, _, _, _, hc, _, _, _ => by unfold chkA at hc; cases hc
  | [], .val _ _, _, _, _, _, hc, _, _, _ => by unfold chkA at hc; cases hc
  | [], .bor _ _, _, _, _, _, hc, _, _, _ => by unfold chkA at hc; cases hc
  | [], .io _ _, _, _, _, _, hc, _, _, _ => by unfold chkA at hc; cases hc
  | .val :: _, .nil, _, _, _, _, hc, _, _, _ => by unfold chkA at hc; cases hc
  | .val :: _, .val _ _, [], _, _, _, hc, _, _, _ => by unfold chkA at hc; cases hc
  | .val :: _, .io _ _, _, _, _, _, hc, _, _, _ => by unfold chkA at hc; cases hc
  | .loc :: _, _, _, _, _, _, hc, _, _, _ => by unfold chkA at hc; cases hc
  | .io :: _, .nil, _, _, _, _, hc, _, _, _ => by unfold chkA at hc; cases hc
  | .io :: _, .val _ _, _, _, _, _, hc, _, _, _ => by unfold chkA at hc; cases hc
  | .io :: _, .bor _ _, _, _, _, _, hc, _, _, _ => by unfold chkA at hc; cases hc
  | .val :: _, .bor _ _, [], _, _, _, hc, _, _, _ => by unfold chkA at hc; cases hc
  | .io :: _, .io _ _, [], _, _, _, hc, _, _, _ => by unfold chkA at hc; cases hc
theorem out_kd : ∀ {as : AL} {pk : List Kind} {args : List Expr} {os : List D} {env env' : EnD}, chkA S pk as args = true → outA as os env = some env' → env'.length = env.length ∧ ∀ (i : Nat), S.kd[i]? ≠ some .io → env'[i]? = env[i]?
  | .nil, pk, args, os, env, env', _, h => by
    cases os with
    | nil => unfold outA at h; cases h; exact ⟨rfl, fun _ _ => rfl⟩
    | cons _ _ => unfold outA at h; cases h
  | .val e r, pk, args, os, env, env', hc, h => by
    unfold outA at h
    cases pk with
    | nil => unfold chkA at hc; cases hc
    | cons p pk =>
      cases p <;> first | (unfold chkA at hc; cases hc; done) | skip
      cases args with
      | nil => unfold chkA at hc; cases hc
      | cons a as =>
        unfold chkA at hc
        simp only [Bool.and_eq_true] at hc
        exact out_kd hc.2 h
  | .bor n r, pk, args, os, env, env', hc, h => by
    unfold outA at h
    cases pk with
    | nil => unfold chkA at hc; cases hc
    | cons p pk =>
      cases p <;> first | (unfold chkA at hc; cases hc; done) | skip
      cases args with
      | nil => unfold chkA at hc; cases hc
      | cons a as =>
        unfold chkA at hc
        simp only [Bool.and_eq_true] at hc
        exact out_kd hc.2 h
  | .io n r, pk, args, os, env, env', hc, h => by
    cases os with
    | nil => unfold outA at h; cases h
    | cons o os =>
      unfold outA at h
      cases pk with
      | nil => unfold chkA at hc; cases hc
      | cons p pk =>
        cases p <;> first | (unfold chkA at hc; cases hc; done) | skip
        cases args with
        | nil => unfold chkA at hc; cases hc
        | cons a as =>
          unfold chkA at hc
          simp only [Bool.and_eq_true, decide_eq_true_eq] at hc
          obtain ⟨h1, h2⟩ := out_kd hc.2 h
          refine ⟨by rw [h1, List.length_set], fun i hi => ?_⟩
          rw [h2 i hi, List.getElem?_set_ne]
          intro e
          subst e
          exact hi hc.1.1.2
/-- what the changed lists hold behind the call -/
theorem out_io (s : SR K S.kd O0 H0 env σ H) : ∀ {as : AL} {pk : List Kind} {args : List Expr} {ds1 : List D} {vs : List V} {os : List D} {env1 env' : EnD}, chkA S pk as args = true → AReps K S.kd O0 σ H as ds1 vs → ORep H' pk vs os → outA as os env1 = some env' → env1.length = S.kd.length →
    ∀ (i : Nat), S.kd[i]? = some .io → (i ∈ iosA as ∧ ∃ (a : Addr) (ns : List Int), env'[i]? = some (some (.lst (ns.map D.int))) ∧ At σ i a ∧ H' a = some (.lst (ns.map V.int))) ∨ (i ∉ iosA as ∧ env'[i]? = env1[i]?)
  | .nil, pk, args, ds1, vs, os, env1, env', _, _, _, h, _ => fun i hi => by
    cases os with
    | nil => unfold outA at h; cases h; exact .inr ⟨(fun z => by cases z), rfl⟩
    | cons _ _ => unfold outA at h; cases h
  | .val e r, pk, args, ds1, vs, os, env1, env', hc, hr, ho, h, hl => fun i hi => by
    unfold outA at h
    cases pk with
    | nil => unfold chkA at hc; cases hc
    | cons p pk =>
      cases p <;> first | (unfold chkA at hc; cases hc; done) | skip
      cases args with
      | nil => unfold chkA at hc; cases hc
      | cons a as =>
        unfold chkA at hc
        simp only [Bool.and_eq_true] at hc
        cases ds1 with
        | nil => exact hr.elim
        | cons d ds1 =>
          obtain ⟨v, vr, rfl, p, q⟩ := hr
          have ho2 : ORep H' pk vr os := ho
          exact out_io s hc.2 q ho2 h hl i hi
  | .bor n r, pk, args, ds1, vs, os, env1, env', hc, hr, ho, h, hl => fun i hi => by
    unfold outA at h
    cases pk with
    | nil => unfold chkA at hc; cases hc
    | cons p pk =>
      cases p <;> first | (unfold chkA at hc; cases hc; done) | skip
      cases args with
      | nil => unfold chkA at hc; cases hc
      | cons a as =>
        unfold chkA at hc
        simp only [Bool.and_eq_true] at hc
        cases ds1 with
        | nil => exact hr.elim
        | cons d ds1 =>
          obtain ⟨v, vr, rfl, p, q⟩ := hr
          have ho2 : ORep H' pk vr os := ho
          exact out_io s hc.2 q ho2 h hl i hi
  | .io n r, pk, args, ds1, vs, os, env1, env', hc, hr, ho, h, hl => fun i hi => by
    cases os with
    | nil => unfold outA at h; cases h
    | cons o os =>
      unfold outA at h
      cases pk with
      | nil => unfold chkA at hc; cases hc
      | cons p pk =>
        cases p <;> first | (unfold chkA at hc; cases hc; done) | skip
        cases args with
        | nil => unfold chkA at hc; cases hc
        | cons a as =>
          unfold chkA at hc
          simp only [Bool.and_eq_true, decide_eq_true_eq] at hc
          cases ds1 with
          | nil => exact hr.elim
          | cons d ds1 =>
            obtain ⟨v, vr, rfl, p, q⟩ := hr
            have hn : n < S.kd.length := by
              have := hc.1.1.2
              rcases Nat.lt_or_ge n S.kd.length with z | z
              · exact z
              · rw [List.getElem?_eq_none z] at this; cases this
            obtain ⟨d0, hd0⟩ := s.ow n v (.inr hc.1.1.2) p
            obtain ⟨b, ns0, _, hb, _⟩ := s.io n d0 hc.1.1.2 hd0
            have ev : v = .ref b := by
              unfold At at hb
              rw [hb] at p
              cases p
              rfl
            subst ev
            obtain ⟨⟨ns, rfl, e2⟩, ho2⟩ : (∃ ns : List Int, o = .lst (ns.map D.int) ∧ H' b = some (.lst (ns.map V.int))) ∧ ORep H' pk vr os := ho
            have ih := out_io s hc.2 q ho2 h (by rw [List.length_set]; exact hl) i hi
            rcases ih with ⟨h1, h2⟩ | ⟨h1, h2⟩
            · exact .inl ⟨List.mem_cons_of_mem _ h1, h2⟩
            · by_cases hin : i = n
              · subst hin
                refine .inl ⟨List.mem_cons_self, b, ns, ?_, hb, e2⟩
                rw [h2, List.getElem?_set_self (by rw [hl]; exact hn)]
              · refine .inr ⟨fun z => ?_, ?_⟩
                · rcases List.mem_cons.mp z with z | z
                  · exact hin z
                  · exact h1 z
                · rw [h2, List.getElem?_set_ne (fun e => hin e.symm)]
/-- the state behind a call -/
theorem SR.behind (s : SR K S.kd O0 H0 env σ H) {as : AL} {pk : List Kind} {args : List Expr} {ds1 : List D} {vs : List V} {os : List D} (hc : chkA S pk as args = true) (hr : AReps K S.kd O0 σ H as ds1 vs) (hio : ∀ b, IoV pk vs b → ∃ i ∈ iosA as, S.kd[i]? = some .io ∧ At σ i b)
    (fr : ∀ b o, H b = some o → ¬ IoV pk vs b → H' b = some o) (ho : ORep H' pk vs os) (h : outA as os env = some env') : SR K S.kd O0 H0 env' σ H' ∧ Kp S.kd σ H H' := by
  obtain ⟨h1, h2⟩ := out_kd hc h
  have h3 := out_io s hc hr ho h s.le
  have io_of : ∀ b, IoV pk vs b → Io S.kd σ b := fun b hb => let ⟨i, _, hk, ha⟩ := hio b hb; ⟨i, hk, ha⟩
  have kp : Kp S.kd σ H H' := fun b o hb hn => fr b o hb fun z => hn (io_of b z)
  have st : Stays (Own S.kd O0 σ) (Own S.kd O0 σ) H H' := kp.stays
  have iolt : ∀ (i : Nat) (d : D), S.kd[i]? = some .io → env'[i]? = some (some d) → ∃ (a : Addr) (ns : List Int), d = .lst (ns.map D.int) ∧ At σ i a ∧ H' a = some (.lst (ns.map V.int)) := by
    intro i d hk hd
    rcases h3 i hk with ⟨_, a, ns, e1, e2, e3⟩ | ⟨hn, e1⟩
    · rw [hd] at e1
      cases e1
      exact ⟨a, ns, rfl, e2, e3⟩
    · rw [hd] at e1
      obtain ⟨a, ns, e2, e3, e4⟩ := s.io i d hk e1.symm
      refine ⟨a, ns, e2, e3, fr a _ e4 fun z => ?_⟩
      obtain ⟨j, hj, hk2, ha2⟩ := hio a z
      have := s.dj i j a (.inr hk) (.inr hk2) e3 ha2
      subst this
      exact hn hj
  refine ⟨⟨by rw [h1]; exact s.le, s.ls, fun b o hb hn => kp b o (s.fr b o hb hn) hn, s.o0, fun i d hk hd => ?_, fun i d hk hd => ?_, iolt, s.dj, fun i v hk hv => ?_⟩, kp⟩
  · rw [h2 i (by rw [hk]; decide)] at hd
    obtain ⟨v, e, r⟩ := s.vl i d hk hd
    exact ⟨v, e, r.mono st⟩
  · rw [h2 i (by rw [hk]; decide)] at hd
    obtain ⟨a, l, xs, e, e2, e3, e4, r⟩ := s.lc i d hk hd
    refine ⟨a, l, xs, e, e2, kp a _ e3 fun ⟨j, hj, haj⟩ => ?_, e4, r.mono st⟩
    have := s.dj i j a (.inl hk) (.inr hj) e2 haj
    subst this
    rw [hk] at hj
    cases hj
  · obtain ⟨d, hd⟩ := s.ow i v hk hv
    rcases hk with hk | hk
    · exact ⟨d, by rw [h2 i (by rw [hk]; decide)]; exact hd⟩
    · rcases h3 i hk with ⟨_, a, ns, e1, _⟩ | ⟨_, e1⟩
      · exact ⟨_, e1⟩
      · exact ⟨d, by rw [e1]; exact hd⟩
theorem bors_loc {j : Nat} : ∀ {as : AL} {pk : List Kind} {args : List Expr}, chkA S pk as args = true → j ∈ borsA as → S.kd[j]? = some .loc
  | .nil, _, _, _, hj => by cases hj
  | .val e r, pk, args, hc, hj => by
    cases pk with
    | nil => unfold chkA at hc; cases hc
    | cons p pk =>
      cases p <;> first | (unfold chkA at hc; cases hc; done) | skip
      cases args with
      | nil => unfold chkA at hc; cases hc
      | cons a as =>
        unfold chkA at hc
        simp only [Bool.and_eq_true] at hc
        exact bors_loc hc.2 hj
  | .bor n r, pk, args, hc, hj => by
    cases pk with
    | nil => unfold chkA at hc; cases hc
    | cons p pk =>
      cases p <;> first | (unfold chkA at hc; cases hc; done) | skip
      cases args with
      | nil => unfold chkA at hc; cases hc
      | cons a as =>
        unfold chkA at hc
        simp only [Bool.and_eq_true, decide_eq_true_eq] at hc
        rcases List.mem_cons.mp hj with e | e
        · subst e; exact hc.1.2
        · exact bors_loc hc.2 e
  | .io n r, pk, args, hc, hj => by
    cases pk with
    | nil => unfold chkA at hc; cases hc
    | cons p pk =>
      cases p <;> first | (unfold chkA at hc; cases hc; done) | skip
      cases args with
      | nil => unfold chkA at hc; cases hc
      | cons a as =>
        unfold chkA at hc
        simp only [Bool.and_eq_true] at hc
        exact bors_loc hc.2 hj
theorem lentA_nil : ∀ {as : AL}, lentA as = false → borsA as = []
  | .nil, _ => rfl
  | .val _ r, h => lentA_nil (as := r) h
  | .bor _ _, h => by unfold lentA at h; cases h
  | .io _ r, h => lentA_nil (as := r) h
/-- f(..) -/
theorem snd_call (c : Ctx k S X) {m : Md} {f : Nat} {F : Fn} {as : AL} {x : Str} {args : List Expr} {p pos : Pos} (hF : S.P.fn f = some F) (hx : F.name = x) (hg : isGl S.sc x = true) (hdb : (x == ("__debug__" : Str)) = false) (hc : chkA S F.pk as args = true) (hm : m ≠ .fr ∨ (F.fresh = true ∧ lentA as = false))
    (hs : args.all noStar = true) (h : ∃ t, PA X args t ∧ AOk k S X as t) : SndE k S X m (.call f as) (.Call (.Name x p) args [] pos) := by
  obtain ⟨t, pa, ee⟩ := h
  obtain ⟨fa, fd, h1, h2, hln, h3, _, h4⟩ := c.fn f F hF
  subst hx
  have core : ∀ (t : TA), AOk k S X as t → ∀ (O0 : AS) (H0 : Hp) (env : EnD) (σ : L2.St) (H : Hp) (d : D) (env' : EnD) (Q : VK), SR X.K S.kd O0 H0 env σ H → ev (run S.P k) S.P.gl (.call f as) env = some (d, env') →
      (∀ v H', SR X.K S.kd O0 H0 env' σ H' → Kp S.kd σ H H' → MRep X.K S.kd O0 σ m H H' d v → Q v H') → t σ H fun vs H1 => spF X.K S.P k f F vs H1 Q E0 := by
    intro t ee O0 H0 env σ H d env' Q s he q
    unfold ev at he
    obtain ⟨⟨ds1, e1⟩, g1, he⟩ := bindS he
    obtain ⟨ds, g2, he⟩ := bindS he
    obtain ⟨⟨r, os⟩, g3, he⟩ := bindS he
    refine ee O0 H0 env σ H ds1 e1 _ s g1 fun vs H1 s1 k1 r1 => ?_
    obtain ⟨a1, a2, a3, a4⟩ := args_ok s1 (Lent σ as) hc r1 g2 fun i hi b ha => ⟨i, hi, ha⟩
    have ho : ∀ b, OL S.kd O0 σ (Lent σ as) b → ∃ xs, H1 b = some (.lst xs) := fun b hb => s1.olst b hb.1
    have hpk : F.pk.length = F.ps.length := by
      unfold Fn.pk
      rw [List.length_take]
      omega
    have hio : ∀ b, IoV F.pk vs b → OL S.kd O0 σ (Lent σ as) b := fun b hb => by
      obtain ⟨i, hi, hk, ha⟩ := a3 b hb
      refine ⟨.inr ⟨i, .inr hk, ha⟩, fun ⟨j, hj, haj⟩ => ?_⟩
      have hkj : S.kd[j]? = some .loc := bors_loc hc hj
      have := s1.dj i j b (.inr hk) (.inl hkj) ha haj
      subst this
      rw [hk] at hkj
      cases hkj
    refine ⟨OL S.kd O0 σ (Lent σ as), ds, r, os, by rw [a1, hpk], a2, a4, hio, ho, g3, fun v H' fr hos hr hfr => ?_⟩
    have henv : (lentA as && !D.flat r) = false ∧ ∃ e2, outA as os e1 = some e2 ∧ (r, e2) = (d, env') := by
      cases hb : (lentA as && !D.flat r) with
      | true =>
        simp only [hb, if_true] at he
        cases he
      | false =>
        simp only [hb, Bool.false_eq_true, if_false] at he
        obtain ⟨e2, g4, g5⟩ := Option.map_eq_some_iff.mp he
        exact ⟨rfl, e2, g4, g5⟩
    obtain ⟨hfl, e2, g4, g5⟩ := henv
    cases g5
    obtain ⟨s2, k2⟩ := s1.behind hc r1 a3 fr hos g4
    have up : Rep X.K (Own S.kd O0 σ) H' d v := by
      cases hlt : lentA as with
      | true =>
        rw [hlt, Bool.true_and, Bool.not_eq_false'] at hfl
        exact hr.flat s2.olst hfl
      | false =>
        refine hr.mono fun b o hb hn => ⟨hb, fun z => hn ⟨z, fun ⟨j, hj, _⟩ => ?_⟩⟩
        rw [lentA_nil hlt] at hj
        cases hj
    refine q v H' s2 (k1.trans k2) ?_
    cases m with
    | str => exact up
    | vw => exact up.v
    | fr =>
      rcases hm with hm | ⟨hm1, hm2⟩
      · exact absurd rfl hm
      · obtain ⟨a, l, xs, e, e', n, hH', rr⟩ := hfr hm1
        refine ⟨a, l, xs, e, e', s.free s1 k1 n, hH', rr.mono fun b o hb hn => ⟨hb, fun z => ?_⟩⟩
        rcases z with z | z
        · refine hn (.inl ⟨z, fun ⟨j, hj, _⟩ => ?_⟩)
          rw [lentA_nil hm2] at hj
          cases hj
        · exact hn (.inr z)
  cases args with
  | nil =>
    have hz : as = .nil := by
      cases as with
      | nil => rfl
      | val _ _ => cases hp : F.pk with
        | nil => rw [hp] at hc; unfold chkA at hc; cases hc
        | cons p pk => rw [hp] at hc; cases p <;> (unfold chkA at hc; cases hc)
      | bor _ _ => cases hp : F.pk with
        | nil => rw [hp] at hc; unfold chkA at hc; cases hc
        | cons p pk => rw [hp] at hc; cases p <;> (unfold chkA at hc; cases hc)
      | io _ _ => cases hp : F.pk with
        | nil => rw [hp] at hc; unfold chkA at hc; cases hc
        | cons p pk => rw [hp] at hc; cases p <;> (unfold chkA at hc; cases hc)
    subst hz
    exact ⟨_, pe_g0 h4 c.rm c.gd (gl_of c hg) h1 h2 h3 hdb, fun O0 H0 env σ H d env' Q s he _ q => core tNil a_nil.2 O0 H0 env σ H d env' Q s he q⟩
  | cons a as' => exact ⟨_, pe_g h4 c.rm c.gd (gl_of c hg) h1 h2 h3 hdb pa hs, fun O0 H0 env σ H d env' Q s he _ q => core t ee O0 H0 env σ H d env' Q s he q⟩
end
end LS
/-! LsL: targets, what is walked, comprehensions. -/
namespace LS
open PySem PySem.Spec PyProof.Rows L2

section
variable {k : Nat} {S : Sta} {X : Cx} {K : PySem.W.Frag} {kd : List Kind} {O0 : AS} {H0 H H' Hs : Hp} {env env' : EnD} {σ : L2.St}
/-! ### targets -/
theorem at_set {i j : Nat} {x : Option V} {a : Addr} (h : j ≠ i) : At (σ.set i x) j a ↔ At σ j a := by
  unfold At
  rw [List.getElem?_set_ne (fun e => h e.symm)]
theorem own_ne {i j : Nat} (hi : kd[i]? = some .val) (hj : isOwn kd j) : j ≠ i := fun e => by
  subst e
  rcases hj with h | h <;> (rw [hi] at h; cases h)
theorem own_set {i : Nat} {x : Option V} (hi : kd[i]? = some .val) : Own kd O0 (σ.set i x) = Own kd O0 σ := by
  funext a
  refine propext ⟨fun h => ?_, fun h => ?_⟩
  · rcases h with h | ⟨j, hj, ha⟩
    · exact .inl h
    · exact .inr ⟨j, hj, (at_set (own_ne hi hj)).mp ha⟩
  · rcases h with h | ⟨j, hj, ha⟩
    · exact .inl h
    · exact .inr ⟨j, hj, (at_set (own_ne hi hj)).mpr ha⟩
theorem io_set {i : Nat} {x : Option V} (hi : kd[i]? = some .val) : Io kd (σ.set i x) = Io kd σ := by
  funext a
  refine propext ⟨fun ⟨j, hj, ha⟩ => ⟨j, hj, (at_set (own_ne hi (.inr hj))).mp ha⟩, fun ⟨j, hj, ha⟩ => ⟨j, hj, (at_set (own_ne hi (.inr hj))).mpr ha⟩⟩
theorem kd_lt {i : Nat} {q : Kind} (h : kd[i]? = some q) : i < kd.length := by
  rcases Nat.lt_or_ge i kd.length with z | z
  · exact z
  · rw [List.getElem?_eq_none z] at h; cases h
/-- a plain slot is given a value, or forgotten -/
theorem SR.setv (s : SR K kd O0 H0 env σ H) {i : Nat} {od : Option D} {ov : Option V} (hi : kd[i]? = some .val) (r : ∀ d, od = some d → ∃ v, ov = some v ∧ Rep K (Own kd O0 σ) H d v) : SR K kd O0 H0 (env.set i od) (σ.set i ov) H := by
  have hl := kd_lt hi
  refine ⟨by rw [List.length_set]; exact s.le, by rw [List.length_set]; exact s.ls, fun b o hb hn => s.fr b o hb (by rw [← io_set hi]; exact hn), s.o0, fun j d hk hd => ?_, fun j d hk hd => ?_, fun j d hk hd => ?_, fun a b c ha hb h1 h2 => ?_, fun j v hj hv => ?_⟩
  · rw [own_set hi]
    by_cases e : j = i
    · subst e
      rw [List.getElem?_set_self (by rw [s.le]; exact hl)] at hd
      cases hd
      obtain ⟨v, e, r2⟩ := r d rfl
      subst e
      exact ⟨v, List.getElem?_set_self (by rw [s.ls]; exact hl), r2⟩
    · rw [List.getElem?_set_ne (fun z => e z.symm)] at hd
      obtain ⟨v, e2, r⟩ := s.vl j d hk hd
      exact ⟨v, by rw [List.getElem?_set_ne (fun z => e z.symm)]; exact e2, r⟩
  · have e : j ≠ i := own_ne hi (.inl hk)
    rw [List.getElem?_set_ne (fun z => e z.symm)] at hd
    obtain ⟨a, l, xs, e1, e2, e3, e4, r⟩ := s.lc j d hk hd
    exact ⟨a, l, xs, e1, (at_set e).mpr e2, e3, e4, by rw [own_set hi]; exact r⟩
  · have e : j ≠ i := own_ne hi (.inr hk)
    rw [List.getElem?_set_ne (fun z => e z.symm)] at hd
    obtain ⟨a, ns, e1, e2, e3⟩ := s.io j d hk hd
    exact ⟨a, ns, e1, (at_set e).mpr e2, e3⟩
  · exact s.dj a b c ha hb ((at_set (own_ne hi ha)).mp h1) ((at_set (own_ne hi hb)).mp h2)
  · have e : j ≠ i := own_ne hi hj
    rw [List.getElem?_set_ne (fun z => e z.symm)] at hv ⊢
    exact s.ow j v hj hv
/-- two lists of slots that differ in plain places alone -/
def Off (kd : List Kind) (is : List Nat) (σ σ' : L2.St) : Prop := σ'.length = σ.length ∧ (∀ i, i ∉ is → σ'[i]? = σ[i]?) ∧ ∀ i ∈ is, kd[i]? = some .val
theorem Off.refl {is : List Nat} (h : ∀ i ∈ is, kd[i]? = some .val) : Off kd is σ σ := ⟨rfl, fun _ _ => rfl, h⟩
theorem Off.trans {is js : List Nat} {σ' σ2 : L2.St} (a : Off kd is σ σ') (b : Off kd js σ' σ2) : Off kd (is ++ js) σ σ2 :=
  ⟨b.1.trans a.1, fun i hi => (b.2.1 i (fun z => hi (List.mem_append_right _ z))).trans (a.2.1 i (fun z => hi (List.mem_append_left _ z))), fun i hi => (List.mem_append.mp hi).elim (a.2.2 i) (b.2.2 i)⟩
theorem Off.set {i : Nat} {x : Option V} (h : kd[i]? = some .val) : Off kd [i] σ (σ.set i x) :=
  ⟨List.length_set, fun j hj => List.getElem?_set_ne (fun e => hj (by rw [e]; exact List.mem_cons_self)), fun j hj => by rw [List.mem_singleton.mp hj]; exact h⟩
theorem Off.at {is : List Nat} {σ' : L2.St} (h : Off kd is σ σ') {j : Nat} {a : Addr} (hj : isOwn kd j) : At σ' j a ↔ At σ j a := by
  unfold At
  rw [h.2.1 j fun z => by
    have := h.2.2 j z
    rcases hj with q | q <;> (rw [this] at q; cases q)]
theorem Off.own {is : List Nat} {σ' : L2.St} (h : Off kd is σ σ') : Own kd O0 σ' = Own kd O0 σ := by
  funext a
  refine propext ⟨fun q => ?_, fun q => ?_⟩
  · rcases q with q | ⟨j, hj, ha⟩
    · exact .inl q
    · exact .inr ⟨j, hj, (h.at hj).mp ha⟩
  · rcases q with q | ⟨j, hj, ha⟩
    · exact .inl q
    · exact .inr ⟨j, hj, (h.at hj).mpr ha⟩
theorem Off.io {is : List Nat} {σ' : L2.St} (h : Off kd is σ σ') : Io kd σ' = Io kd σ := by
  funext a
  exact propext ⟨fun ⟨j, hj, ha⟩ => ⟨j, hj, (h.at (.inr hj)).mp ha⟩, fun ⟨j, hj, ha⟩ => ⟨j, hj, (h.at (.inr hj)).mpr ha⟩⟩
def GOk (S : Sta) (X : Cx) (t : T) (g : TG) : Prop := ∀ (O0 : AS) (H0 : Hp) (env : EnD) (σ : L2.St) (H : Hp) (d : D) (v : V) (env' : EnD) (Q : L2.St → Hp → Prop), SR X.K S.kd O0 H0 env σ H → asgT t d env = some env' → Rep X.K (Own S.kd O0 σ) H d v →
  (∀ σ', SR X.K S.kd O0 H0 env' σ' H → Off S.kd t.slots σ σ' → Q σ' H) → g v σ H Q
def GsOk (S : Sta) (X : Cx) (l : List T) (g : TGs) : Prop := ∀ (O0 : AS) (H0 : Hp) (env : EnD) (σ : L2.St) (H : Hp) (ds : List D) (vs : List V) (env' : EnD) (Q : L2.St → Hp → Prop), SR X.K S.kd O0 H0 env σ H → asgL l ds env = some env' → Reps X.K (Own S.kd O0 σ) H ds vs →
  (∀ σ', SR X.K S.kd O0 H0 env' σ' H → Off S.kd (T.slotsL l) σ σ' → Q σ' H) → g vs σ H Q
theorem asg1 {e : Expr} {r : List Expr} {env : Env} (h : noStar e = true) : assignEach (e :: r) env = (false, assign e env) :: assignEach r env := by
  cases e <;> first | rfl | cases h
theorem asgN : ∀ {es : List Expr}, es.all noStar = true → ∀ (env : Env), (assignEach es env).length = es.length ∧ (assignEach es env).findIdx? (·.1) = none
  | [], _, _ => ⟨rfl, rfl⟩
  | e :: r, h, env => by
    rw [List.all_cons, Bool.and_eq_true] at h
    obtain ⟨h1, h2⟩ := asgN h.2 env
    rw [asg1 h.1]
    refine ⟨by rw [List.length_cons, List.length_cons, h1], ?_⟩
    rw [List.findIdx?_cons]
    simp [h2]
theorem len_TL : ∀ {l : List T} {es : List Expr}, chkTL S l es = true → es.length = T.len l
  | [], [], _ => rfl
  | t :: ts, e :: es, h => by
    unfold chkTL at h
    rw [Bool.and_eq_true] at h
    unfold T.len
    rw [List.length_cons, len_TL h.2]
  | [], _ :: _, h => by unfold chkTL at h; cases h
  | _ :: _, [], h => by unfold chkTL at h; cases h
mutual
theorem snd_g (c : Ctx k S X) : ∀ {t : T} {e : Expr}, chkT S t e = true → ∃ g, PG X e g ∧ GOk S X t g
  | .n i, e, h => by
    cases e <;> first | (unfold chkT at h; cases h; done) | skip
    rename_i x pos
    unfold chkT at h
    rw [Bool.and_eq_true] at h
    obtain ⟨h1, h2⟩ := h
    have hk := of_decide_eq_true h2
    unfold Sta.st at h1
    simp only [Bool.and_eq_true, decide_eq_true_eq, Bool.or_eq_true] at h1
    obtain ⟨⟨h3, h4⟩, h5⟩ := h1
    have hl : L2.Loc X.env.scope x := by
      unfold L2.Loc
      rw [c.sc]
      unfold isLoc at h4
      split at h4
      · exact .inl (by assumption)
      · exact .inr (by assumption)
      · cases h4
    have hf : X.fn x = true ∨ X.env.scope.names.lookup x = some .local := by
      rcases h5 with h5 | h5
      · exact .inl (c.fnB x h5)
      · refine .inr ?_
        rw [c.sc]
        unfold isPlain at h5
        split at h5
        · assumption
        · cases h5
    refine ⟨_, pg_name (i := i) (by rw [c.N]; exact c.nd) (by rw [c.N]; exact h3) hl hf, fun O0 H0 env σ H d v env' Q s ha r q => ?_⟩
    unfold asgT at ha
    cases ha
    exact q _ (s.setv hk fun d' e => by cases e; exact ⟨v, rfl, r⟩) (by unfold T.slots; exact .set hk)
  | .t l, e, h => by
    cases e <;> first | (unfold chkT at h; cases h; done) | skip
    rename_i es kk pos
    unfold chkT at h
    rw [Bool.and_eq_true] at h
    obtain ⟨gs, pg, eg⟩ := snd_gs c h.1 h.2
    refine ⟨_, pg_tup (n := es.length) c.cm pg (asgN h.2 _).1 (asgN h.2 _).2, fun O0 H0 env σ H d v env' Q s ha r q => ?_⟩
    cases d <;> first | (unfold asgT at ha; cases ha; done) | skip
    rename_i ds
    unfold asgT at ha
    split at ha
    · rename_i hlen
      unfold Rep at r
      obtain ⟨a, xs, rfl, p, rr⟩ := r
      refine ⟨a, xs, rfl, p.sq, by rw [rr.len, hlen, len_TL h.1], ?_⟩
      exact eg O0 H0 env σ H ds xs env' Q s ha rr fun σ' s' o => q σ' s' (by unfold T.slots; exact o)
    · cases ha
theorem snd_gs (c : Ctx k S X) : ∀ {l : List T} {es : List Expr}, chkTL S l es = true → es.all noStar = true → ∃ g, PGs X es g ∧ GsOk S X l g
  | [], es, h, _ => by
    cases es with
    | nil =>
      refine ⟨_, pgs_nil, fun O0 H0 env σ H ds vs env' Q s ha r q => ?_⟩
      cases ds with
      | nil =>
        unfold asgL at ha
        cases ha
        unfold Reps at r
        subst r
        exact ⟨rfl, q σ s (by unfold T.slotsL; exact .refl fun i hi => by cases hi)⟩
      | cons _ _ => unfold asgL at ha; cases ha
    | cons _ _ => unfold chkTL at h; cases h
  | t :: ts, es, h, hn => by
    cases es with
    | nil => unfold chkTL at h; cases h
    | cons e es =>
      unfold chkTL at h
      rw [Bool.and_eq_true] at h
      rw [List.all_cons, Bool.and_eq_true] at hn
      obtain ⟨g, pg, eg⟩ := snd_g c h.1
      obtain ⟨gs, pgs, egs⟩ := snd_gs c h.2 hn.2
      refine ⟨_, pgs_cons pg pgs (by rw [asg1 hn.1]; rfl), fun O0 H0 env σ H ds vs env' Q s ha r q => ?_⟩
      cases ds with
      | nil => unfold asgL at ha; cases ha
      | cons d ds =>
        unfold asgL at ha
        obtain ⟨e1, h1, h2⟩ := bindS ha
        unfold Reps at r
        obtain ⟨v, vr, rfl, p, rr⟩ := r
        refine ⟨v, vr, rfl, ?_⟩
        refine eg O0 H0 env σ H d v e1 _ s h1 p fun σ1 s1 o1 => ?_
        refine egs O0 H0 e1 σ1 H ds vr env' Q s1 h2 (by rw [o1.own]; exact rr) fun σ2 s2 o2 => ?_
        exact q σ2 s2 (by unfold T.slotsL; exact o1.trans o2)
end
end
end LS
set_option maxHeartbeats 1000000
/-! LsLa: enumerate(tuple). -/
namespace LS
open PySem PySem.Spec PyProof.Rows L2
theorem meets_enum1 {v : Value} {ob : Obj} {J : Heap → Prop} (B : Begins v ob J) :
    Meets (Builtin.«enumerate.__new__» ⟨[.type "enumerate", v], []⟩) (fun _ R s => J s.heap ∧ R (.ok (.ret (.ref (s.heap.push ob).objs.size))) { s with heap := (s.heap.push ob).push { cls := .type "enumerate", data := .fields #[.none, .bool false, .ref s.heap.objs.size, rawInt 0, .none, .none] } }) :=
  .of_wp fun prog w A R s hh => by
    obtain ⟨hp, g, d, tk, os⟩ := s
    obtain ⟨h1, hh⟩ := hh
    have hsub := sub_enumerate
    have q1 : ∀ {A2 : Around} {E2 : Value → Shared → Prop} {Q2 : Value → Shared → Prop}, Q2 (.ref hp.objs.size) ⟨hp.push ob, g, d, tk, os⟩ → wpAny (model prog w) A2 (pyIter v) Q2 E2 ⟨hp, g, d, tk, os⟩ := fun q => B.iter prog w _ _ ⟨hp, g, d, tk, os⟩ _ h1 q
    wp_walk using q1
    refine wpAny_stack_any fun stk => wpAny_pure ?_
    split
    · rename_i cl _ _ _ _ _
      cases (cl == Value.type "enumerate")
      · wp_walk using q1
        exact ⟨_, rfl, hh⟩
      · wp_walk using q1
        exact ⟨_, rfl, hh⟩
    · wp_walk using q1
      exact ⟨_, rfl, hh⟩
section
variable {prog : Program} {w : World} {A : Around} {E : Value → Shared → Prop} {s : Shared}
theorem call_enum1 {v : Value} {ob : Obj} {J : Heap → Prop} {Q : Value → Shared → Prop} (B : Begins v ob J) (h1 : J s.heap)
    (hh : ∀ h', IsEnum h' (s.heap.objs.size + 1) s.heap.objs.size 0 .none → h'.get? s.heap.objs.size = some ob → h'.objs.size = s.heap.objs.size + 2 → (∀ b o, s.heap.get? b = some o → h'.get? b = some o) → Q (.ref (s.heap.objs.size + 1)) { s with heap := h' }) :
    wpAny (model prog w) A (call (.type "enumerate") [v]) Q E s := by
  refine callType_new F.called_enumerate (by decide) (F.typeCall_enumerate_1 _) (F.newCall_enumerate_1 _) (fun obj => F.args_object_init_2 obj _) F.entry_enumerate_new (meets_enum1 B) ⟨h1, ?_⟩
  have hz : (s.heap.push ob).objs.size = s.heap.objs.size + 1 := Heap.size_push ..
  show _ ∧ _
  rw [hz]
  have he : IsEnum ((s.heap.push ob).push { cls := .type "enumerate", data := .fields #[.none, .bool false, .ref s.heap.objs.size, rawInt 0, .none, .none] }) (s.heap.objs.size + 1) s.heap.objs.size 0 .none := by
    have z := Heap.get?_push_size (s.heap.push ob) (o := { cls := .type "enumerate", data := .fields #[.none, .bool false, .ref s.heap.objs.size, rawInt 0, .none, .none] }) rfl
    rw [hz] at z
    exact z
  exact ⟨⟨_, he, rfl⟩, hh _ he (Heap.get?_push_of_some _ (Heap.get?_push_size _ B.free)) (by rw [Heap.size_push, hz]) fun b o x => Heap.get?_push_of_some _ (Heap.get?_push_of_some _ x)⟩
end
section
variable {prog : Program} {w : World} {A : Around} {E : Value → Shared → Prop} {s : Shared}
theorem wpAny_pyNext_enum_endT {e it t : Addr} {i : Nat} {items : Array Value} {old : Value} {j : Int} {Q : Option Value → Shared → Prop} (hd : A.handled = none) (he : IsEnum s.heap e it j old) (hit : s.heap.IsTupleIter it t i) (ht : s.heap.IsTuple t items) (hx : items[i]? = none)
    (hQ : ∀ h', Heap.ExtBut it s.heap h' → Q none { s with heap := h' }) : wpAny (model prog w) A (pyNext (.ref e)) Q E s := by
  have hty : s.TypeIs (.ref e) "enumerate" := ⟨_, he, rfl⟩
  unfold pyNext
  refine wpAny_bind (wpAny_attempt (wpAny_callSpecial?_slot (name := Str.ofString "__next__") hty F.slot_enumerate_next (wpAny_call_entry F.slot_enumerate_next hty F.entry_enumerate_next ?_ (F.args_enumerate_next_1 _))))
  show wpAny _ _ (field (.ref e) 2 >>= fun _ => _) _ _ _
  refine wpAny_bind (wpAny_field he rfl (x := .ref it) rfl ?_)
  refine wpAny_bind (wpAny_nextOf_tuple_end hd hit ht hx fun h' x hb hcl => ?_)
  obtain ⟨o, ho, hc⟩ := hcl
  exact wpAny_bind (wpAny_isInstance (T := "StopIteration") (b := true) ⟨o, ho, hc⟩ isSubtype_stop (wpAny_pure (hQ _ hb)))
end
/-- the tuple at a, each item in a new pair -/
def IteT (K : PySem.W.Frag) (a : Addr) : It :=
  ⟨fun i H => ∃ (xs : List V) (x : V), SqT K H a xs ∧ xs[i]? = some x, fun i H v H' => ∃ T x, v = .ref T ∧ H T = none ∧ H' = upd H T (.tup [.int (i : Nat), x]) ∧ ∀ xs, SqT K H a xs → xs[i]? = some x, fun i H => ∃ xs : List V, SqT K H a xs ∧ xs.length ≤ i⟩
theorem turn_enumT {P : Program} {w : World} {K : PySem.W.Frag} {elts : List Expr} {kk : Nat} {tpos : Pos} (a e it : Addr) :
    Turn P w K (.Tuple elts kk tpos) (IteT K a) [e, it] e (fun i h => (∃ old, IsEnum h e it ((i : Nat) : Int) old) ∧ h.IsTupleIter it a i ∧ e ≠ it ∧ e ≠ a ∧ a ≠ it) where
  mem := by simp
  obj := fun i h st b hb => by
    obtain ⟨⟨old, he⟩, ⟨o, ho, hc, hd⟩, _⟩ := st
    have hbb : b = e ∨ b = it := by simpa using hb
    rcases hbb with z | z
    · subst z; exact ⟨_, he, fun v q => nomatch q⟩
    · subst z; exact ⟨o, ho, fun v q => by rw [hd] at q; cases q⟩
  keep := fun i h h' st k => let ⟨⟨old, he⟩, hi, hne⟩ := st; ⟨⟨old, k e (by simp) _ he⟩, hi.at fun o q => k it (by simp) o q, hne⟩
  item := by
    intro X hP hw hK hc i pins s σ H E I hf st hg
    subst hP hw hK
    obtain ⟨⟨old, he⟩, hit, hne, hea, hai⟩ := st
    obtain ⟨xs, x, hq, hx⟩ := hg
    obtain ⟨its, rv, p, hz⟩ := I.tuple hq
    obtain ⟨u, hu, ru⟩ := rv.get hx
    have hel : e < s.heap.objs.size := Heap.lt_size he
    have hil : it < s.heap.objs.size := by obtain ⟨_, q, _⟩ := hit; exact Heap.lt_size q
    have hlt : i < its.toArray.size := by
      rcases Nat.lt_or_ge i its.toArray.size with z | z
      · exact z
      · rw [List.getElem?_eq_none (by simpa using z)] at hu; cases hu
    refine wpAny_pyNext_enum_itemD (Draws.tuple (prog := X.prog) (w := X.w) (A := X.A.in1) (show X.A.in1.handled = none from I.ok.hd hc) it a hai its.toArray) he ⟨hit, p⟩ hlt hne (by simp; exact ⟨hne, hea⟩) fun y h' tk hy ho hst' hT hsz hk => ?_
    have hyu : y = u := by
      have hy : its.toArray[i]? = some y := hy
      have : its[i]? = some y := by simpa using hy
      rw [hu] at this
      cases this
      rfl
    subst hyu
    refine ⟨_, rfl, wpAny_letOwnedTupleGo_enum (s := { s with heap := h', toks := tk + 1 }) ho fun h'' he' sb => ?_⟩
    have hT2 : h''.get? s.heap.objs.size = some { cls := .type "tuple", data := .seq #[.int i tk, y] } := (sb.2 _ (Nat.ne_of_gt hel)).trans hT
    have new : ObjOk X.prog X.w (upd H s.heap.objs.size (.tup [.int (i : Nat), x])) h'' s.heap.objs.size (.tup [.int (i : Nat), x]) := ⟨by show 2 ≤ sizeLine; decide, [.int i tk, y], .cons ⟨_, rfl⟩ (.cons ru .nil), ⟨_, hT2, rfl, _, rfl⟩⟩
    have I1 : Inv X pins σ (upd H s.heap.objs.size (.tup [.int (i : Nat), x])) { s with heap := h'', toks := tk + 1 } := I.turnedNew (ch := [e, it]) (fun b ob hb q => (sb.2 b (fun z => hb (by simp [z]))).trans (hk b ob (fun z => hb (by simp [z])) (fun z => hb (by simp [z])) q)) hf (Nat.le_refl _) new
    refine ⟨.ref s.heap.objs.size, _, I1, rfl, ⟨_, x, rfl, I.hok.fresh (Nat.le_refl _), rfl, fun ys hy => by rw [I.tuple_inj hy hq]; exact hx⟩, ⟨⟨y, ?_⟩, hst'.1.at fun o q => (sb.2 it (Ne.symm hne)).trans q, hne, hea, hai⟩, fun b hb => ?_⟩
    · rw [show ((i + 1 : Nat) : Int) = (i : Int) + 1 by omega]
      exact he'
    · have hbl : b < s.heap.objs.size := by
        have hbb : b = e ∨ b = it := by simpa using hb
        rcases hbb with z | z
        · subst z; exact hel
        · subst z; exact hil
      rw [upd_ne (Nat.ne_of_lt hbl)]
      exact (hf b hb).1
  done := by
    intro X hP hw hK hc i pins s σ H E I hf st hg
    subst hP hw hK
    obtain ⟨⟨old, he⟩, hit, hne, hea, hai⟩ := st
    obtain ⟨xs, hq, hx⟩ := hg
    obtain ⟨its, rv, p, hz⟩ := I.tuple hq
    obtain ⟨f0, f1, f2, f3, f4, f5⟩ := hf it (by simp)
    have hl := rv.length
    refine wpAny_pyNext_enum_endT (I.ok.hd hc) he hit p (by simp; omega) fun h' eb => ⟨rfl, I.turned (t' := s.toks) (fun b o hb q => eb b o hb q) f0 f1 f3 f4 f5⟩
  self := fun A i s Q E st h => let ⟨⟨_, he⟩, _⟩ := st; wpAny_pyIter_enum he h
def iEnumA (K : PySem.W.Frag) (ta : TA) : TI := fun σ H R => ta σ H fun vs H1 => ∃ a xs, vs = [.ref a] ∧ ((SqL K H1 a xs ∧ R (Ite K a) H1) ∨ (SqT K H1 a xs ∧ R (IteT K a) H1))
theorem pi_enumA {X : Cx} {e : Expr} {ta : TA} {p pos tpos : Pos} {elts : List Expr} {kk : Nat} (hg : Gl X "enumerate") (hm : X.mg "enumerate" = none) (ha : PA X [e] ta) (hs : starEach [e] X.env = [(false, eval e X.env)] := by rfl) :
    PI X (.Tuple elts kk tpos) (.Call (.Name "enumerate" p) [e] [] pos) (iEnumA X.K ta) := by
  refine ⟨fun pins s σ H R I h => ?_⟩
  refine Call_ (ld_blt I hg hm boot_enumerate (PyProof.Rows.callWith_type1 (thn (ha.run pos pins s σ H _ I h) fun us s1 ⟨vs, H1, I1, r1, q1⟩ => ?_) hs rfl))
  obtain ⟨a, xs, ex, hq⟩ := q1
  subst ex
  cases r1 with
  | cons r rr =>
    cases rr
    cases r
    have fpo : ∀ b ∈ [s1.heap.objs.size + 1, s1.heap.objs.size], FpOk X pins H1 b := fun b hb => by
      have hbb : b = s1.heap.objs.size + 1 ∨ b = s1.heap.objs.size := by simpa using hb
      have hle : s1.heap.objs.size ≤ b := by rcases hbb with z | z <;> omega
      exact I1.fpOk hle (I1.hok.fresh hle)
    rcases hq with ⟨hq, q⟩ | ⟨hq, q⟩
    · obtain ⟨its, rv, p', hz⟩ := I1.list hq
      refine call_enumerate_list p'.isList fun h' he hit hsz hk => wpAny_pyIter_enum he ?_
      exact ⟨s1.heap.objs.size + 1, [s1.heap.objs.size + 1, s1.heap.objs.size], _, _, H1, rfl, I1.kept (t' := s1.toks) hk, turn_enum a (s1.heap.objs.size + 1) s1.heap.objs.size, ⟨⟨.none, he⟩, hit, Nat.succ_ne_self _⟩, fpo, q⟩
    · obtain ⟨its, rv, p', hz⟩ := I1.tuple hq
      obtain ⟨oo, hoo, _⟩ := id p'
      have hal := Heap.lt_size hoo
      refine call_enum1 (begins_tuple a its.toArray) p' fun h' he hit hsz hk => wpAny_pyIter_enum he ?_
      exact ⟨s1.heap.objs.size + 1, [s1.heap.objs.size + 1, s1.heap.objs.size], _, _, H1, rfl, I1.kept (t' := s1.toks) hk, turn_enumT a (s1.heap.objs.size + 1) s1.heap.objs.size, ⟨⟨.none, he⟩, ⟨_, hit, rfl, rfl⟩, Nat.succ_ne_self _, Ne.symm (Nat.ne_of_lt (Nat.lt_succ_of_lt hal)), Nat.ne_of_lt hal⟩, fpo, q⟩
end LS
set_option maxHeartbeats 1000000
/-! LsLb: enumerate(zip(tuple, tuple)): the zip's next in whatever state its kept tuple is. -/
namespace LS
open PySem PySem.Spec PyProof.Rows L2
abbrev IsZipG (h : Heap) (z TI TO : Addr) (f0 : Value) (f1 : Bool) : Prop :=
  h.get? z = some { cls := .type "zip", dict := none, data := .fields #[f0, .bool f1, .bool false, .ref TI, .ref TO], slots := #[] }
def Fld (v : Value) : Prop := v = .none ∨ ∃ a : Nat, v = rawInt a
section
variable {prog : Program} {w : World} {A : Around} {E : Value → Shared → Prop} {s : Shared} {z TI TO i1 i2 : Addr} {fp1 fp2 : List Addr} {n1 n2 i : Nat} {P1 P2 : Nat → Value → Prop} {St1 St2 : Nat → Heap → Prop} {a1 a2 f0 : Value} {f1 : Bool}
theorem wpAny_loadIfAlive {a : Addr} {Q : Option Obj → Shared → Prop} (h : Q (s.heap.get? a) s) : wpAny (model prog w) A (loadIfAlive a) Q E s := fun _ _ _ => h
theorem zip_isFree {Q : Bool → Shared → Prop} (hz : IsZipG s.heap z TI TO f0 f1) (hf : Fld f0) (hT : Q true s) (hF : ∀ h', IsZipG h' z TI TO f0 true → Heap.SameBut z s.heap h' → Q false { s with heap := h' }) :
    wpAny (model prog w) A (Builtin.SmallTypes.ownedTupleIsFree (.ref z)) Q E s := by
  unfold Builtin.SmallTypes.ownedTupleIsFree
  rcases hf with rfl | ⟨a, rfl⟩
  · exact wpAny_bind (wpAny_field hz rfl (x := .none) rfl (wpAny_pure hT))
  · refine wpAny_bind (wpAny_field hz rfl (x := rawInt a) rfl ?_)
    show wpAny _ _ (loadIfAlive (((a : Nat) : Int)).toNat >>= _) _ _ _
    refine wpAny_bind (wpAny_loadIfAlive ?_)
    cases s.heap.get? (((a : Nat) : Int)).toNat with
    | none => exact wpAny_pure hT
    | some o =>
      show wpAny _ _ (field (.ref z) 1 >>= _) _ _ _
      refine wpAny_bind (wpAny_field hz rfl (x := .bool f1) rfl ?_)
      cases f1 with
      | true => exact wpAny_pure (hF s.heap hz ⟨rfl, fun _ _ => rfl⟩)
      | false =>
        show wpAny _ _ (setField (.ref z) 1 (.bool true) >>= _) _ _ _
        exact wpAny_bind (wpAny_setField_rec hz (by simp) fun h' hz' hs' => wpAny_pure (hF h' hz' hs'))
theorem zipG_next_item {Q : Value → Shared → Prop} (S : ZipSep2 z TI TO i1 i2 fp1 fp2) (D1 : Draws prog w A i1 fp1 n1 P1 St1) (D2 : Draws prog w A i2 fp2 n2 P2 St2)
    (hz : IsZipG s.heap z TI TO f0 f1) (hf : Fld f0) (hTI : IsTupOf2 s.heap TI (.ref i1) (.ref i2)) (hTO : IsTupOf2 s.heap TO a1 a2) (st1 : St1 i s.heap) (st2 : St2 i s.heap) (hlt1 : i < n1) (hlt2 : i < n2)
    (hQ : ∀ x1 x2 h' tk f0' f1', P1 i x1 → P2 i x2 → IsZipG h' z TI TO f0' f1' → Fld f0' → (∃ b1 b2, IsTupOf2 h' TO b1 b2) → St1 (i + 1) h' → St2 (i + 1) h' → IsTupOf2 h' s.heap.objs.size x1 x2 → h'.objs.size = s.heap.objs.size + 1 →
      (∀ c o, c ≠ z → c ≠ TO → c ≠ i1 → c ≠ i2 → s.heap.get? c = some o → h'.get? c = some o) → Q (.ref s.heap.objs.size) { s with heap := h', toks := tk }) :
    wpAny (model prog w) A (Builtin.«zip.__next__» ⟨[.ref z], []⟩) (fun fin s' => ∃ v, fin = .done (.ret v) ∧ Q v s') E s := by
  obtain ⟨hp, g, d, tk0, os⟩ := s
  show wpAny _ _ (field (.ref z) 2 >>= _) _ _ _
  refine wpAny_bind (wpAny_field hz rfl (x := .bool false) rfl ?_)
  show wpAny _ _ (field (.ref z) 3 >>= _) _ _ _
  refine wpAny_bind (wpAny_field hz rfl (x := .ref TI) rfl ?_)
  refine wpAny_bind (wpAny_seqItems hTI rfl ?_)
  show wpAny _ _ (Builtin.SmallTypes.ownedTupleIsFree (.ref z) >>= _) _ _ _
  refine wpAny_bind (zip_isFree hz hf ?_ fun hp' hz' hs' => ?_)
  · simp only [if_true]
    refine wpAny_bind (wpAny_rule ?_)
    refine wpAny_bind (wpAny_field hz rfl (x := .ref TO) rfl ?_)
    refine wpAny_bind (wpAny_setField_rec hz (by simp) fun g0 hz0 hs0 => ?_)
    replace hz0 : IsZipG g0 z TI TO .ellipsis f1 := hz0
    replace hs0 : Heap.SameBut z hp g0 := hs0
    refine wpAny_bind ?_
    simp only [List.zipIdx_cons, List.zipIdx_nil, List.forIn_cons, List.forIn_nil]
    refine wpAny_bind (wpAny_bind (wpAny_onRaise ?_))
    show wpAny _ _ (Builtin.SmallTypes.nextOf (.ref i1) >>= _) _ _ ⟨g0, g, d, tk0, os⟩
    refine wpAny_bind (D1.item i _ _ _ hlt1 (D1.over st1 hs0 S.zf1) fun x1 p1 tk1 hx1 sn1 hp1 => wpAny_pure ?_)
    replace hp1 : Heap.SameBut i1 g0 p1 := hp1
    have hU1 : IsTupOf2 p1 TO a1 a2 := hp1.extBut _ _ S.Ti1 (hs0.extBut _ _ S.TOz hTO)
    refine wpAny_bind (wpAny_seqItems (s := ⟨p1, g, d, tk1, os⟩) hU1 rfl ?_)
    refine wpAny_bind (updateSeq_IsTupOf2 (s := ⟨p1, g, d, tk1, os⟩) hU1 fun g1 hT1 hs1 => ?_)
    replace hT1 : IsTupOf2 g1 TO x1 a2 := hT1
    replace hs1 : Heap.SameBut TO p1 g1 := hs1
    refine wpAny_bind (wpAny_letGo (wpAny_pure ?_))
    refine wpAny_bind (wpAny_bind (wpAny_onRaise ?_))
    show wpAny _ _ (Builtin.SmallTypes.nextOf (.ref i2) >>= _) _ _ ⟨g1, g, d, tk1, os⟩
    refine wpAny_bind (D2.item i _ _ _ hlt2 (D2.over (D2.over (D2.over st2 hs0 S.zf2) hp1 S.sep1_2) hs1 S.Tf2) fun x2 p2 tk2 hx2 sn2 hp2 => wpAny_pure ?_)
    replace hp2 : Heap.SameBut i2 g1 p2 := hp2
    have hU2 : IsTupOf2 p2 TO x1 a2 := hp2.extBut _ _ S.Ti2 hT1
    refine wpAny_bind (wpAny_seqItems (s := ⟨p2, g, d, tk2, os⟩) hU2 rfl ?_)
    refine wpAny_bind (updateSeq_IsTupOf2 (s := ⟨p2, g, d, tk2, os⟩) hU2 fun g2 hT2 hs2 => ?_)
    replace hT2 : IsTupOf2 g2 TO x1 x2 := hT2
    replace hs2 : Heap.SameBut TO p2 g2 := hs2
    refine wpAny_bind (wpAny_letGo (wpAny_pure (wpAny_pure ?_)))
    refine wpAny_bind (wpAny_seqItems (s := ⟨g2, g, d, tk2, os⟩) hT2 rfl ?_)
    refine wpAny_bind (wpAny_newTuple ?_)
    have hsz : g2.objs.size = hp.objs.size := by rw [hs2.1, hp2.1, hs1.1, hp1.1, hs0.1]
    have hzz : IsZipG g2 z TI TO .ellipsis f1 := (hs2.extBut _ _ S.TOz.symm (hp2.extBut _ _ S.zi2 (hs1.extBut _ _ S.TOz.symm (hp1.extBut _ _ S.zi1 hz0))))
    have hkk : ∀ c o, c ≠ z → c ≠ TO → c ≠ i1 → c ≠ i2 → hp.get? c = some o → g2.get? c = some o := fun c o cz cT c1 c2 e =>
      (hs2.extBut _ _ cT (hp2.extBut _ _ c2 (hs1.extBut _ _ cT (hp1.extBut _ _ c1 (hs0.extBut _ _ cz e)))))
    have hj1 : St1 (i + 1) g2 := (D1.over (D1.over (D1.over sn1 hs1 S.Tf1) hp2 S.sep2_1) hs2 S.Tf1)
    have hj2 : St2 (i + 1) g2 := (D2.over sn2 hs2 S.Tf2)
    have hzlt : z < g2.objs.size := Heap.lt_size hzz
    show wpAny _ _ (Builtin.SmallTypes.ownedTupleHandOut (.ref z) (.ref g2.objs.size) >>= _) _ _ ⟨g2.push { cls := .type "tuple", data := .seq #[x1, x2] }, g, d, tk2, os⟩
    refine wpAny_bind ?_
    unfold Builtin.SmallTypes.ownedTupleHandOut
    have hz₆ : IsZipG (g2.push { cls := .type "tuple", data := .seq #[x1, x2] }) z TI TO .ellipsis f1 := Heap.get?_push_of_some _ hzz
    refine wpAny_bind (wpAny_setField_rec hz₆ (by simp) fun h₇ hz₇ hs₇ => ?_)
    replace hz₇ : IsZipG h₇ z TI TO (rawInt g2.objs.size) f1 := hz₇
    refine wpAny_setField_rec hz₇ (by simp) fun h₈ hz₈ hs₈ => ?_
    replace hz₈ : IsZipG h₈ z TI TO (rawInt g2.objs.size) false := hz₈
    replace hs₇ : Heap.SameBut z (g2.push { cls := .type "tuple", data := .seq #[x1, x2] }) h₇ := hs₇
    replace hs₈ : Heap.SameBut z h₇ h₈ := hs₈
    have up : ∀ c o, c ≠ z → g2.get? c = some o → h₈.get? c = some o := fun c o c1 e => hs₈.extBut _ _ c1 (hs₇.extBut _ _ c1 (Heap.get?_push_of_some _ e))
    have hT₈ : IsTupOf2 h₈ g2.objs.size x1 x2 := hs₈.extBut _ _ (Nat.ne_of_gt hzlt) (hs₇.extBut _ _ (Nat.ne_of_gt hzlt) (Heap.get?_push_size _ rfl))
    have hz8 : h₈.objs.size = g2.objs.size + 1 := by rw [hs₈.1, hs₇.1, Heap.size_push]
    rw [hsz] at hz₈ hT₈ hz8
    refine wpAny_pure ⟨_, rfl, ?_⟩
    show Q (.ref g2.objs.size) ⟨h₈, g, d, tk2, os⟩
    rw [hsz]
    exact hQ x1 x2 h₈ tk2 _ _ hx1 hx2 hz₈ (.inr ⟨_, rfl⟩) ⟨_, _, up _ _ S.TOz hT2⟩ (D1.frame _ _ _ hj1 fun b hb o e => up b o (fun q => S.zf1 (q ▸ hb)) e) (D2.frame _ _ _ hj2 fun b hb o e => up b o (fun q => S.zf2 (q ▸ hb)) e) hT₈ hz8 fun c o cz cT c1 c2 e => up c o cz (hkk c o cz cT c1 c2 e)
  · replace hs' : Heap.SameBut z hp hp' := hs'
    simp only [Bool.false_eq_true, if_false]
    refine wpAny_bind ?_
    simp only [← Array.forIn_toList, List.forIn_cons, List.forIn_nil]
    refine wpAny_bind (wpAny_bind (wpAny_holding ?_))
    show wpAny _ _ (Builtin.SmallTypes.nextOf (.ref i1) >>= _) _ _ ⟨hp', g, d, tk0, os⟩
    refine wpAny_bind (D1.item i _ _ _ hlt1 (D1.over st1 hs' S.zf1) fun x1 p1 tk1 hx1 sn1 hp1 => wpAny_pure ?_)
    replace hp1 : Heap.SameBut i1 hp' p1 := hp1
    refine wpAny_pure ?_
    refine wpAny_bind (wpAny_bind (wpAny_holding ?_))
    show wpAny _ _ (Builtin.SmallTypes.nextOf (.ref i2) >>= _) _ _ ⟨p1, g, d, tk1, os⟩
    refine wpAny_bind (D2.item i _ _ _ hlt2 (D2.over (D2.over st2 hs' S.zf2) hp1 S.sep1_2) fun x2 p2 tk2 hx2 sn2 hp2 => wpAny_pure ?_)
    replace hp2 : Heap.SameBut i2 p1 p2 := hp2
    refine wpAny_pure (wpAny_pure ?_)
    show wpAny _ _ (newTuple [x1, x2] >>= _) _ _ ⟨p2, g, d, tk2, os⟩
    refine wpAny_bind (wpAny_newTuple ?_)
    have hsz : p2.objs.size = hp.objs.size := by rw [hp2.1, hp1.1, hs'.1]
    have hzz : IsZipG p2 z TI TO f0 true := hp2.extBut _ _ S.zi2 (hp1.extBut _ _ S.zi1 hz')
    have up : ∀ c o, p2.get? c = some o → (p2.push { cls := .type "tuple", data := .seq #[x1, x2] }).get? c = some o := fun c o e => Heap.get?_push_of_some _ e
    have hT : IsTupOf2 (p2.push { cls := .type "tuple", data := .seq #[x1, x2] }) p2.objs.size x1 x2 := Heap.get?_push_size _ rfl
    have hz8 : (p2.push { cls := .type "tuple", data := .seq #[x1, x2] }).objs.size = p2.objs.size + 1 := by rw [Heap.size_push]
    rw [hsz] at hT hz8
    refine wpAny_pure ⟨_, rfl, ?_⟩
    show Q (.ref p2.objs.size) ⟨p2.push { cls := .type "tuple", data := .seq #[x1, x2] }, g, d, tk2, os⟩
    rw [hsz]
    exact hQ x1 x2 _ tk2 _ _ hx1 hx2 (up _ _ hzz) hf ⟨a1, a2, up _ _ (hp2.extBut _ _ S.Ti2 (hp1.extBut _ _ S.Ti1 (hs'.extBut _ _ S.TOz hTO)))⟩ (D1.frame _ _ _ (D1.over sn1 hp2 S.sep2_1) fun b hb o e => up b o e) (D2.frame _ _ _ sn2 fun b hb o e => up b o e) hT hz8 fun c o cz cT c1 c2 e => up c o (hp2.extBut _ _ c2 (hp1.extBut _ _ c1 (hs'.extBut _ _ cz e)))
theorem zipG_next_end {Q : Fin → Shared → Prop} (S : ZipSep2 z TI TO i1 i2 fp1 fp2) (D1 : Draws prog w A i1 fp1 n1 P1 St1) (D2 : Draws prog w A i2 fp2 n2 P2 St2)
    (hz : IsZipG s.heap z TI TO f0 f1) (hf : Fld f0) (hTI : IsTupOf2 s.heap TI (.ref i1) (.ref i2)) (hTO : IsTupOf2 s.heap TO a1 a2) (st1 : St1 i s.heap) (st2 : St2 i s.heap) (hle1 : i ≤ n1) (hle2 : i ≤ n2) (hend : i = n1 ∨ i = n2)
    (hE : ∀ h' tk e, (∀ c o, c ≠ z → c ≠ TO → c ≠ i1 → c ≠ i2 → s.heap.get? c = some o → h'.get? c = some o) → (∃ o, h'.get? e = some o ∧ o.cls = .type "StopIteration") → E (.ref e) { s with heap := h', toks := tk }) :
    wpAny (model prog w) A (Builtin.«zip.__next__» ⟨[.ref z], []⟩) Q E s := by
  obtain ⟨hp, g, d, tk0, os⟩ := s
  show wpAny _ _ (field (.ref z) 2 >>= _) _ _ _
  refine wpAny_bind (wpAny_field hz rfl (x := .bool false) rfl ?_)
  show wpAny _ _ (field (.ref z) 3 >>= _) _ _ _
  refine wpAny_bind (wpAny_field hz rfl (x := .ref TI) rfl ?_)
  refine wpAny_bind (wpAny_seqItems hTI rfl ?_)
  show wpAny _ _ (Builtin.SmallTypes.ownedTupleIsFree (.ref z) >>= _) _ _ _
  refine wpAny_bind (zip_isFree hz hf ?_ fun hp' hz' hs' => ?_)
  · simp only [if_true]
    refine wpAny_bind (wpAny_rule ?_)
    refine wpAny_bind (wpAny_field hz rfl (x := .ref TO) rfl ?_)
    refine wpAny_bind (wpAny_setField_rec hz (by simp) fun g0 hz0 hs0 => ?_)
    replace hz0 : IsZipG g0 z TI TO .ellipsis f1 := hz0
    replace hs0 : Heap.SameBut z hp g0 := hs0
    refine wpAny_bind ?_
    simp only [List.zipIdx_cons, List.zipIdx_nil, List.forIn_cons, List.forIn_nil]
    refine wpAny_bind (wpAny_bind (wpAny_onRaise ?_))
    show wpAny _ _ (Builtin.SmallTypes.nextOf (.ref i1) >>= _) _ _ ⟨g0, g, d, tk0, os⟩
    by_cases hlt1 : i < n1
    · refine wpAny_bind (D1.item i _ _ _ hlt1 (D1.over st1 hs0 S.zf1) fun x1 p1 tk1 hx1 sn1 hp1 => wpAny_pure ?_)
      replace hp1 : Heap.SameBut i1 g0 p1 := hp1
      have hU1 : IsTupOf2 p1 TO a1 a2 := hp1.extBut _ _ S.Ti1 (hs0.extBut _ _ S.TOz hTO)
      refine wpAny_bind (wpAny_seqItems (s := ⟨p1, g, d, tk1, os⟩) hU1 rfl ?_)
      refine wpAny_bind (updateSeq_IsTupOf2 (s := ⟨p1, g, d, tk1, os⟩) hU1 fun g1 hT1 hs1 => ?_)
      replace hT1 : IsTupOf2 g1 TO x1 a2 := hT1
      replace hs1 : Heap.SameBut TO p1 g1 := hs1
      refine wpAny_bind (wpAny_letGo (wpAny_pure ?_))
      have hi2 : i = n2 := by omega
      refine wpAny_bind (wpAny_bind (wpAny_onRaise ?_))
      show wpAny _ _ (Builtin.SmallTypes.nextOf (.ref i2) >>= _) _ _ ⟨g1, g, d, tk1, os⟩
      refine wpAny_bind (D2.done ⟨g1, g, d, tk1, os⟩ _ _ (by rw [← hi2]; exact (D2.over (D2.over (D2.over st2 hs0 S.zf2) hp1 S.sep1_2) hs1 S.Tf2)) fun q e hq he => ?_)
      replace hq : Heap.ExtBut i2 g1 q := hq
      obtain ⟨oe, hoe, hce⟩ := he
      replace hoe : q.get? e = some oe := hoe
      have hzq : IsZipG q z TI TO .ellipsis f1 := hq _ _ S.zi2 (hs1.extBut _ _ S.TOz.symm (hp1.extBut _ _ S.zi1 hz0))
      have hez : e ≠ z := fun x => by subst x; rw [hzq] at hoe; cases hoe; simp at hce
      refine wpAny_setField_rec (s := ⟨q, g, d, tk1, os⟩) hzq (by simp) fun q' _ hq' => ?_
      replace hq' : Heap.SameBut z q q' := hq'
      exact hE q' tk1 e (fun c o cz cT c1 c2 x => hq'.extBut _ _ cz (hq _ _ c2 (hs1.extBut _ _ cT (hp1.extBut _ _ c1 (hs0.extBut _ _ cz x))))) ⟨oe, hq'.extBut _ _ hez hoe, hce⟩
    · have hi1 : i = n1 := by omega
      refine wpAny_bind (D1.done ⟨g0, g, d, tk0, os⟩ _ _ (by rw [← hi1]; exact (D1.over st1 hs0 S.zf1)) fun q e hq he => ?_)
      replace hq : Heap.ExtBut i1 g0 q := hq
      obtain ⟨oe, hoe, hce⟩ := he
      replace hoe : q.get? e = some oe := hoe
      have hzq : IsZipG q z TI TO .ellipsis f1 := hq _ _ S.zi1 hz0
      have hez : e ≠ z := fun x => by subst x; rw [hzq] at hoe; cases hoe; simp at hce
      refine wpAny_setField_rec (s := ⟨q, g, d, tk0, os⟩) hzq (by simp) fun q' _ hq' => ?_
      replace hq' : Heap.SameBut z q q' := hq'
      exact hE q' tk0 e (fun c o cz cT c1 c2 x => hq'.extBut _ _ cz (hq _ _ c1 (hs0.extBut _ _ cz x))) ⟨oe, hq'.extBut _ _ hez hoe, hce⟩
  · replace hs' : Heap.SameBut z hp hp' := hs'
    simp only [Bool.false_eq_true, if_false]
    refine wpAny_bind ?_
    simp only [← Array.forIn_toList, List.forIn_cons, List.forIn_nil]
    refine wpAny_bind (wpAny_bind (wpAny_holding ?_))
    show wpAny _ _ (Builtin.SmallTypes.nextOf (.ref i1) >>= _) _ _ ⟨hp', g, d, tk0, os⟩
    by_cases hlt1 : i < n1
    · refine wpAny_bind (D1.item i _ _ _ hlt1 (D1.over st1 hs' S.zf1) fun x1 p1 tk1 hx1 sn1 hp1 => wpAny_pure ?_)
      replace hp1 : Heap.SameBut i1 hp' p1 := hp1
      refine wpAny_pure ?_
      have hi2 : i = n2 := by omega
      refine wpAny_bind (wpAny_bind (wpAny_holding ?_))
      show wpAny _ _ (Builtin.SmallTypes.nextOf (.ref i2) >>= _) _ _ ⟨p1, g, d, tk1, os⟩
      refine wpAny_bind (D2.done ⟨p1, g, d, tk1, os⟩ _ _ (by rw [← hi2]; exact (D2.over (D2.over st2 hs' S.zf2) hp1 S.sep1_2)) fun q e hq he => ?_)
      replace hq : Heap.ExtBut i2 p1 q := hq
      exact hE q tk1 e (fun c o cz cT c1 c2 x => hq _ _ c2 (hp1.extBut _ _ c1 (hs'.extBut _ _ cz x))) he
    · have hi1 : i = n1 := by omega
      refine wpAny_bind (D1.done ⟨hp', g, d, tk0, os⟩ _ _ (by rw [← hi1]; exact (D1.over st1 hs' S.zf1)) fun q e hq he => ?_)
      replace hq : Heap.ExtBut i1 hp' q := hq
      exact hE q tk0 e (fun c o cz cT c1 c2 x => hq _ _ c1 (hs'.extBut _ _ cz x)) he
/-- the zip's next, asked by the enumerate -/
theorem nextOf_zipG_item {Q : Value → Shared → Prop} (S : ZipSep2 z TI TO i1 i2 fp1 fp2) (D1 : Draws prog w A.in1 i1 fp1 n1 P1 St1) (D2 : Draws prog w A.in1 i2 fp2 n2 P2 St2)
    (hz : IsZipG s.heap z TI TO f0 f1) (hf : Fld f0) (hTI : IsTupOf2 s.heap TI (.ref i1) (.ref i2)) (hTO : IsTupOf2 s.heap TO a1 a2) (st1 : St1 i s.heap) (st2 : St2 i s.heap) (hlt1 : i < n1) (hlt2 : i < n2)
    (hQ : ∀ x1 x2 h' tk f0' f1', P1 i x1 → P2 i x2 → IsZipG h' z TI TO f0' f1' → Fld f0' → (∃ b1 b2, IsTupOf2 h' TO b1 b2) → St1 (i + 1) h' → St2 (i + 1) h' → IsTupOf2 h' s.heap.objs.size x1 x2 → h'.objs.size = s.heap.objs.size + 1 →
      (∀ c o, c ≠ z → c ≠ TO → c ≠ i1 → c ≠ i2 → s.heap.get? c = some o → h'.get? c = some o) → Q (.ref s.heap.objs.size) { s with heap := h', toks := tk }) :
    wpAny (model prog w) A (Builtin.SmallTypes.nextOf (.ref z)) Q E s := by
  have hT : s.TypeIs (.ref z) "zip" := ⟨_, hz, rfl⟩
  unfold Builtin.SmallTypes.nextOf
  exact wpAny_bind (wpAny_callSpecial?_slot (name := Str.ofString "__next__") hT F.slot_zip_next (wpAny_call_entry F.slot_zip_next hT F.entry_zip_next
    (zipG_next_item S D1 D2 hz hf hTI hTO st1 st2 hlt1 hlt2 fun x1 x2 h' tk f0' f1' y1 y2 b1 b2 b3 b4 b5 b6 b7 b8 => wpAny_pure (hQ x1 x2 h' tk f0' f1' y1 y2 b1 b2 b3 b4 b5 b6 b7 b8)) (F.args_zip_next_1 _)))
theorem nextOf_zipG_end {Q : Value → Shared → Prop} (S : ZipSep2 z TI TO i1 i2 fp1 fp2) (D1 : Draws prog w A.in1 i1 fp1 n1 P1 St1) (D2 : Draws prog w A.in1 i2 fp2 n2 P2 St2)
    (hz : IsZipG s.heap z TI TO f0 f1) (hf : Fld f0) (hTI : IsTupOf2 s.heap TI (.ref i1) (.ref i2)) (hTO : IsTupOf2 s.heap TO a1 a2) (st1 : St1 i s.heap) (st2 : St2 i s.heap) (hle1 : i ≤ n1) (hle2 : i ≤ n2) (hend : i = n1 ∨ i = n2)
    (hE : ∀ h' tk e, (∀ c o, c ≠ z → c ≠ TO → c ≠ i1 → c ≠ i2 → s.heap.get? c = some o → h'.get? c = some o) → (∃ o, h'.get? e = some o ∧ o.cls = .type "StopIteration") → E (.ref e) { s with heap := h', toks := tk }) :
    wpAny (model prog w) A (Builtin.SmallTypes.nextOf (.ref z)) Q E s := by
  have hT : s.TypeIs (.ref z) "zip" := ⟨_, hz, rfl⟩
  unfold Builtin.SmallTypes.nextOf
  exact wpAny_bind (wpAny_callSpecial?_slot (name := Str.ofString "__next__") hT F.slot_zip_next (wpAny_call_entry F.slot_zip_next hT F.entry_zip_next
    (zipG_next_end S D1 D2 hz hf hTI hTO st1 st2 hle1 hle2 hend hE) (F.args_zip_next_1 _)))
end
end LS
set_option maxHeartbeats 1000000
/-! LsLc: enumerate(zip(tuple, tuple)): the turns. -/
namespace LS
open PySem PySem.Spec PyProof.Rows L2
section
variable {prog : Program} {w : World} {A : Around} {E : Value → Shared → Prop} {s : Shared} {e z TI TO i1 i2 : Addr} {fp1 fp2 : List Addr} {n1 n2 i : Nat} {P1 P2 : Nat → Value → Prop} {St1 St2 : Nat → Heap → Prop} {a1 a2 f0 old : Value} {f1 : Bool} {c : Int}
/-- what a turn of enumerate(zip(..)) leaves: the heap behind the zip's step, and at the end -/
structure EzOut (e z TI TO i1 i2 : Addr) (i : Nat) (c : Int) (P1 P2 : Nat → Value → Prop) (St1 St2 : Nat → Heap → Prop) (hp h₁ h' : Heap) (x1 x2 : Value) (tk : Nat) (f0' : Value) (f1' : Bool) : Prop where
  p1 : P1 i x1
  p2 : P2 i x2
  zip : IsZipG h₁ z TI TO f0' f1'
  fld : Fld f0'
  to : ∃ b1 b2, IsTupOf2 h₁ TO b1 b2
  s1 : St1 (i + 1) h₁
  s2 : St2 (i + 1) h₁
  pair : IsTupOf2 h₁ hp.objs.size x1 x2
  sz : h₁.objs.size = hp.objs.size + 1
  kz : ∀ b o, b ≠ z → b ≠ TO → b ≠ i1 → b ≠ i2 → hp.get? b = some o → h₁.get? b = some o
  out : IsEnumOut h' e z (c + 1) (.ref hp.objs.size) (hp.objs.size + 1)
  tup : h'.get? (hp.objs.size + 1) = some { cls := .type "tuple", data := .seq #[.int c tk, .ref hp.objs.size] }
  sz' : h'.objs.size = hp.objs.size + 2
  ke : ∀ b o, b ≠ e → h₁.get? b = some o → h'.get? b = some o
theorem enumZ_next_item {Q : Value → Shared → Prop} (S : ZipSep2 z TI TO i1 i2 fp1 fp2) (D1 : Draws prog w A.in1 i1 fp1 n1 P1 St1) (D2 : Draws prog w A.in1 i2 fp2 n2 P2 St2)
    (he : IsEnum s.heap e z c old) (hz : IsZipG s.heap z TI TO f0 f1) (hf : Fld f0) (hTI : IsTupOf2 s.heap TI (.ref i1) (.ref i2)) (hTO : IsTupOf2 s.heap TO a1 a2) (st1 : St1 i s.heap) (st2 : St2 i s.heap) (hlt1 : i < n1) (hlt2 : i < n2)
    (ez : e ≠ z) (eT : e ≠ TO) (e1 : e ≠ i1) (e2 : e ≠ i2)
    (hQ : ∀ h₁ h' x1 x2 tk f0' f1', EzOut e z TI TO i1 i2 i c P1 P2 St1 St2 s.heap h₁ h' x1 x2 tk f0' f1' → Q (.ref (s.heap.objs.size + 1)) { s with heap := h', toks := tk + 1 }) :
    wpAny (model prog w) A (Builtin.«enumerate.__next__» ⟨[.ref e], []⟩) (fun fin s' => ∃ v, fin = .done (.ret v) ∧ Q v s') E s := by
  obtain ⟨hp, g, d, tk₀, os⟩ := s
  show wpAny _ _ (field (.ref e) 2 >>= _) _ _ _
  refine wpAny_bind (wpAny_field he rfl (x := .ref z) rfl ?_)
  refine wpAny_bind (nextOf_zipG_item S D1 D2 hz hf hTI hTO st1 st2 hlt1 hlt2 fun x1 x2 h₁ tk f0' f1' y1 y2 b1 b2 b3 b4 b5 b6 b7 b8 => ?_)
  replace b6 : IsTupOf2 h₁ hp.objs.size x1 x2 := b6
  replace b7 : h₁.objs.size = hp.objs.size + 1 := b7
  replace b8 : ∀ c o, c ≠ z → c ≠ TO → c ≠ i1 → c ≠ i2 → hp.get? c = some o → h₁.get? c = some o := b8
  have he₁ : IsEnum h₁ e z c old := b8 _ _ ez eT e1 e2 he
  show wpAny _ _ (field (.ref e) 3 >>= _) _ _ ⟨h₁, g, d, tk, os⟩
  refine wpAny_bind (wpAny_field he₁ rfl (x := rawInt c) rfl ?_)
  show wpAny _ _ (field (.ref e) 4 >>= _) _ _ ⟨h₁, g, d, tk, os⟩
  refine wpAny_bind (wpAny_field he₁ rfl (x := .none) rfl ?_)
  show wpAny _ _ (mkInt c >>= _) _ _ ⟨h₁, g, d, tk, os⟩
  refine wpAny_bind (wpAny_mkInt ?_)
  show wpAny _ _ (setField (.ref e) 3 (rawInt (c + 1)) >>= _) _ _ ⟨h₁, g, d, tk + 1, os⟩
  refine wpAny_bind (wpAny_setField_rec he₁ (by simp) fun h₂ he₂ hs₂ => ?_)
  replace hs₂ : Heap.SameBut e h₁ h₂ := hs₂
  replace he₂ : IsEnum h₂ e z (c + 1) old := he₂
  show wpAny _ _ (setField (.ref e) 4 .none >>= _) _ _ ⟨h₂, g, d, tk + 1, os⟩
  refine wpAny_bind (wpAny_setField_rec he₂ (by simp) fun h₃ he₃ hs₃ => ?_)
  replace hs₃ : Heap.SameBut e h₂ h₃ := hs₃
  replace he₃ : IsEnum h₃ e z (c + 1) old := he₃
  show wpAny _ _ (newTuple [.int c tk, .ref hp.objs.size] >>= _) _ _ ⟨h₃, g, d, tk + 1, os⟩
  refine wpAny_bind (wpAny_newTuple ?_)
  have he₄ : IsEnum (h₃.push { cls := .type "tuple", data := .seq #[.int c tk, .ref hp.objs.size] }) e z (c + 1) old := Heap.get?_push_of_some _ he₃
  generalize hh₄ : h₃.push { cls := .type "tuple", data := .seq #[.int c tk, .ref hp.objs.size] } = h₄ at he₄
  have hsz : h₃.objs.size = hp.objs.size + 1 := by rw [hs₃.1, hs₂.1, b7]
  have hel : e < hp.objs.size := Heap.lt_size he
  have ht₄ : h₄.get? (hp.objs.size + 1) = some { cls := .type "tuple", data := .seq #[.int c tk, .ref hp.objs.size] } := by rw [← hh₄, ← hsz]; exact Heap.get?_push_size _ rfl
  have hz₄ : h₄.objs.size = hp.objs.size + 2 := by rw [← hh₄, Heap.size_push, hsz]
  have hk₄ : ∀ b o, b ≠ e → h₁.get? b = some o → h₄.get? b = some o := fun b o hbe hb => by
    rw [← hh₄]; exact Heap.get?_push_of_some _ (hs₃.extBut b o hbe (hs₂.extBut b o hbe hb))
  show wpAny _ _ (Builtin.SmallTypes.ownedTupleIsFree (.ref e) >>= _) _ _ ⟨h₄, g, d, tk + 1, os⟩
  rw [hsz]
  clear hh₄ he₃ hs₃ he₂ hs₂ he₁ hsz h₃ h₂
  refine wpAny_bind ?_
  unfold Builtin.SmallTypes.ownedTupleIsFree
  refine wpAny_bind (wpAny_field he₄ rfl (x := .none) rfl (wpAny_pure ?_))
  simp only [if_true]
  refine wpAny_bind (wpAny_rule ?_)
  refine wpAny_bind (wpAny_field he₄ rfl (x := old) rfl ?_)
  refine wpAny_bind (wpAny_setField_rec he₄ (by simp) fun h₅ he₅ hs₅ => ?_)
  replace hs₅ : Heap.SameBut e h₄ h₅ := hs₅
  replace he₅ : IsEnum h₅ e z (c + 1) (.ref hp.objs.size) := he₅
  show wpAny _ _ (Builtin.SmallTypes.ownedTupleHandOut (.ref e) (.ref (hp.objs.size + 1)) >>= _) _ _ ⟨h₅, g, d, tk + 1, os⟩
  refine wpAny_bind ?_
  unfold Builtin.SmallTypes.ownedTupleHandOut
  refine wpAny_bind (wpAny_setField_rec he₅ (by simp) fun h₆ he₆ hs₆ => ?_)
  replace hs₆ : Heap.SameBut e h₅ h₆ := hs₆
  replace he₆ : IsEnumOut h₆ e z (c + 1) (.ref hp.objs.size) (hp.objs.size + 1) := he₆
  refine wpAny_setField_rec he₆ (by simp) fun h₇ he₇ hs₇ => ?_
  replace hs₇ : Heap.SameBut e h₆ h₇ := hs₇
  replace he₇ : IsEnumOut h₇ e z (c + 1) (.ref hp.objs.size) (hp.objs.size + 1) := he₇
  have ne1 : hp.objs.size + 1 ≠ e := Nat.ne_of_gt (Nat.lt_succ_of_lt hel)
  exact wpAny_bind (wpAny_letGo (wpAny_pure ⟨_, rfl, hQ h₁ h₇ x1 x2 tk f0' f1' ⟨y1, y2, b1, b2, b3, b4, b5, b6, b7, b8, he₇, hs₇.extBut _ _ ne1 (hs₆.extBut _ _ ne1 (hs₅.extBut _ _ ne1 ht₄)), by rw [hs₇.1, hs₆.1, hs₅.1, hz₄],
    fun b o hbe hb => hs₇.extBut b o hbe (hs₆.extBut b o hbe (hs₅.extBut b o hbe (hk₄ b o hbe hb)))⟩⟩))
theorem pyNext_enumZ_item {Q : Option Value → Shared → Prop} (S : ZipSep2 z TI TO i1 i2 fp1 fp2) (D1 : Draws prog w A.in1.in1 i1 fp1 n1 P1 St1) (D2 : Draws prog w A.in1.in1 i2 fp2 n2 P2 St2)
    (he : IsEnum s.heap e z c old) (hz : IsZipG s.heap z TI TO f0 f1) (hf : Fld f0) (hTI : IsTupOf2 s.heap TI (.ref i1) (.ref i2)) (hTO : IsTupOf2 s.heap TO a1 a2) (st1 : St1 i s.heap) (st2 : St2 i s.heap) (hlt1 : i < n1) (hlt2 : i < n2)
    (ez : e ≠ z) (eT : e ≠ TO) (e1 : e ≠ i1) (e2 : e ≠ i2)
    (hQ : ∀ h₁ h' x1 x2 tk f0' f1', EzOut e z TI TO i1 i2 i c P1 P2 St1 St2 s.heap h₁ h' x1 x2 tk f0' f1' → Q (some (.ref (s.heap.objs.size + 1))) { s with heap := h', toks := tk + 1 }) :
    wpAny (model prog w) A (pyNext (.ref e)) Q E s := by
  have hT : s.TypeIs (.ref e) "enumerate" := ⟨_, he, rfl⟩
  unfold pyNext
  exact wpAny_bind (wpAny_attempt (wpAny_callSpecial?_slot (name := Str.ofString "__next__") hT F.slot_enumerate_next
    (wpAny_call_entry F.slot_enumerate_next hT F.entry_enumerate_next
      (enumZ_next_item S D1 D2 he hz hf hTI hTO st1 st2 hlt1 hlt2 ez eT e1 e2 fun h₁ h' x1 x2 tk f0' f1' o => wpAny_pure (hQ h₁ h' x1 x2 tk f0' f1' o)) (F.args_enumerate_next_1 _))))
theorem pyNext_enumZ_end {Q : Option Value → Shared → Prop} (S : ZipSep2 z TI TO i1 i2 fp1 fp2) (D1 : Draws prog w A.in1.in1 i1 fp1 n1 P1 St1) (D2 : Draws prog w A.in1.in1 i2 fp2 n2 P2 St2)
    (he : IsEnum s.heap e z c old) (hz : IsZipG s.heap z TI TO f0 f1) (hf : Fld f0) (hTI : IsTupOf2 s.heap TI (.ref i1) (.ref i2)) (hTO : IsTupOf2 s.heap TO a1 a2) (st1 : St1 i s.heap) (st2 : St2 i s.heap) (hle1 : i ≤ n1) (hle2 : i ≤ n2) (hend : i = n1 ∨ i = n2)
    (hQ : ∀ h' tk, (∀ c o, c ≠ z → c ≠ TO → c ≠ i1 → c ≠ i2 → s.heap.get? c = some o → h'.get? c = some o) → Q none { s with heap := h', toks := tk }) : wpAny (model prog w) A (pyNext (.ref e)) Q E s := by
  have hty : s.TypeIs (.ref e) "enumerate" := ⟨_, he, rfl⟩
  unfold pyNext
  refine wpAny_bind (wpAny_attempt (wpAny_callSpecial?_slot (name := Str.ofString "__next__") hty F.slot_enumerate_next (wpAny_call_entry F.slot_enumerate_next hty F.entry_enumerate_next ?_ (F.args_enumerate_next_1 _))))
  show wpAny _ _ (field (.ref e) 2 >>= fun _ => _) _ _ _
  refine wpAny_bind (wpAny_field he rfl (x := .ref z) rfl ?_)
  refine wpAny_bind (nextOf_zipG_end S D1 D2 hz hf hTI hTO st1 st2 hle1 hle2 hend fun h' tk x hb hcl => ?_)
  obtain ⟨o, ho, hc⟩ := hcl
  exact wpAny_bind (wpAny_isInstance (T := "StopIteration") (b := true) ⟨o, ho, hc⟩ isSubtype_stop (wpAny_pure (hQ _ _ hb)))
theorem meets_enumZ {z TI TO : Addr} :
    Meets (Builtin.«enumerate.__new__» ⟨[.type "enumerate", .ref z], []⟩) (fun _ R s => IsZip s.heap z TI TO .none ∧ R (.ok (.ret (.ref s.heap.objs.size))) { s with heap := s.heap.push { cls := .type "enumerate", data := .fields #[.none, .bool false, .ref z, rawInt 0, .none, .none] } }) :=
  .of_wp fun prog w A R s hh => by
    obtain ⟨hp, g, d, tk, os⟩ := s
    obtain ⟨h1, hh⟩ := hh
    have hsub := sub_enumerate
    have q1 : ∀ {A2 : Around} {E2 : Value → Shared → Prop} {Q2 : Value → Shared → Prop}, Q2 (.ref z) ⟨hp, g, d, tk, os⟩ → wpAny (model prog w) A2 (pyIter (.ref z)) Q2 E2 ⟨hp, g, d, tk, os⟩ := fun q => wpAny_pyIter_zip h1 q
    wp_walk using q1
    refine wpAny_stack_any fun stk => wpAny_pure ?_
    split
    · rename_i cl _ _ _ _ _
      cases (cl == Value.type "enumerate")
      · wp_walk using q1
        exact ⟨_, rfl, hh⟩
      · wp_walk using q1
        exact ⟨_, rfl, hh⟩
    · wp_walk using q1
      exact ⟨_, rfl, hh⟩
theorem call_enumZ {z TI TO : Addr} {Q : Value → Shared → Prop} (h1 : IsZip s.heap z TI TO .none)
    (hh : ∀ h', IsEnum h' s.heap.objs.size z 0 .none → h'.objs.size = s.heap.objs.size + 1 → (∀ b o, s.heap.get? b = some o → h'.get? b = some o) → Q (.ref s.heap.objs.size) { s with heap := h' }) :
    wpAny (model prog w) A (call (.type "enumerate") [.ref z]) Q E s := by
  refine callType_new F.called_enumerate (by decide) (F.typeCall_enumerate_1 _) (F.newCall_enumerate_1 _) (fun obj => F.args_object_init_2 obj _) F.entry_enumerate_new meets_enumZ ⟨h1, ?_⟩
  have he : IsEnum (s.heap.push { cls := .type "enumerate", data := .fields #[.none, .bool false, .ref z, rawInt 0, .none, .none] }) s.heap.objs.size z 0 .none := Heap.get?_push_size _ rfl
  exact ⟨⟨_, he, rfl⟩, hh _ he (Heap.size_push ..) fun b o x => Heap.get?_push_of_some _ x⟩
end
/-- the tuples at a and b, each two items in a new pair, behind the count -/
def ItzE (K : PySem.W.Frag) (a b : Addr) : It :=
  ⟨fun i H => ∃ (xs ys : List V) (x y : V), SqT K H a xs ∧ SqT K H b ys ∧ xs[i]? = some x ∧ ys[i]? = some y,
    fun i H v H' => ∃ N T x y, v = .ref T ∧ H N = none ∧ upd H N (.tup [x, y]) T = none ∧ H' = upd (upd H N (.tup [x, y])) T (.tup [.int (i : Nat), .ref N]) ∧ (∀ xs, SqT K H a xs → xs[i]? = some x) ∧ ∀ ys, SqT K H b ys → ys[i]? = some y,
    fun i H => ∃ xs ys : List V, SqT K H a xs ∧ SqT K H b ys ∧ ((xs.length = i ∧ i ≤ ys.length) ∨ (ys.length = i ∧ i ≤ xs.length))⟩
theorem turn_enz {P : Program} {w : World} {K : PySem.W.Frag} {elts : List Expr} {kk : Nat} {tpos : Pos} {a b e z TI TO i1 i2 : Addr} (S : ZipSep2 z TI TO i1 i2 [i1, a] [i2, b]) (ez : e ≠ z) (eI : e ≠ TI) (eT : e ≠ TO) (e1 : e ≠ i1) (e2 : e ≠ i2) (na : a ≠ i1) (nb : b ≠ i2) :
    Turn P w K (.Tuple elts kk tpos) (ItzE K a b) [e, z, TI, TO, i1, i2] e (fun i h => (∃ old, IsEnum h e z ((i : Nat) : Int) old) ∧ (∃ f0 f1, IsZipG h z TI TO f0 f1 ∧ Fld f0) ∧ IsTupOf2 h TI (.ref i1) (.ref i2) ∧ (∃ x y, IsTupOf2 h TO x y) ∧ h.IsTupleIter i1 a i ∧ h.IsTupleIter i2 b i) where
  mem := by simp
  obj := fun i h st c hc => by
    obtain ⟨⟨old, he⟩, ⟨f0, f1, hz, _⟩, hTI, ⟨x, y, hTO⟩, ⟨o1, q1, _, d1⟩, ⟨o2, q2, _, d2⟩⟩ := st
    have e' : c = e ∨ c = z ∨ c = TI ∨ c = TO ∨ c = i1 ∨ c = i2 := by simpa using hc
    rcases e' with q | q | q | q | q | q
    · rw [q]; exact ⟨_, he, fun v q => nomatch q⟩
    · rw [q]; exact ⟨_, hz, fun v q => nomatch q⟩
    · rw [q]; exact ⟨_, hTI, fun v q => nomatch q⟩
    · rw [q]; exact ⟨_, hTO, fun v q => nomatch q⟩
    · rw [q]; exact ⟨o1, q1, fun v q => by rw [d1] at q; cases q⟩
    · rw [q]; exact ⟨o2, q2, fun v q => by rw [d2] at q; cases q⟩
  keep := fun i h h' st k => by
    obtain ⟨⟨old, he⟩, ⟨f0, f1, hz, hf⟩, hTI, ⟨x, y, hTO⟩, h1, h2⟩ := st
    exact ⟨⟨old, k e (by simp) _ he⟩, ⟨f0, f1, k z (by simp) _ hz, hf⟩, k TI (by simp) _ hTI, ⟨x, y, k TO (by simp) _ hTO⟩, h1.at fun o q => k i1 (by simp) o q, h2.at fun o q => k i2 (by simp) o q⟩
  item := by
    intro X hP hw hK hc i pins s σ H E I hf st hg
    subst hP hw hK
    obtain ⟨⟨old, he⟩, ⟨f0, f1, hz, hfl⟩, hTI, ⟨x0, y0, hTO⟩, h1, h2⟩ := st
    obtain ⟨xs, ys, x, y, hqx, hqy, hx, hy⟩ := hg
    obtain ⟨its, rv, p, _⟩ := I.tuple hqx
    obtain ⟨its2, rv2, p2, _⟩ := I.tuple hqy
    obtain ⟨u, hu, ru⟩ := rv.get hx
    obtain ⟨u2, hu2, ru2⟩ := rv2.get hy
    have hel : e < s.heap.objs.size := Heap.lt_size he
    have hzl : z < s.heap.objs.size := Heap.lt_size hz
    have hlt1 : i < its.toArray.size := by
      rcases Nat.lt_or_ge i its.toArray.size with q | q
      · exact q
      · rw [List.getElem?_eq_none (by simpa using q)] at hu; cases hu
    have hlt2 : i < its2.toArray.size := by
      rcases Nat.lt_or_ge i its2.toArray.size with q | q
      · exact q
      · rw [List.getElem?_eq_none (by simpa using q)] at hu2; cases hu2
    have hh : X.A.in1.in1.handled = none := I.ok.hd hc
    refine pyNext_enumZ_item S (Draws.tuple hh i1 a na its.toArray) (Draws.tuple hh i2 b nb its2.toArray) he hz hfl hTI hTO ⟨h1, p⟩ ⟨h2, p2⟩ hlt1 hlt2 ez eT e1 e2 fun h₁ h' x1 x2 tk f0' f1' o => ?_
    have hy1 : x1 = u := by
      have q : its.toArray[i]? = some x1 := o.p1
      have : its[i]? = some x1 := by simpa using q
      rw [hu] at this
      cases this
      rfl
    have hy2 : x2 = u2 := by
      have q : its2.toArray[i]? = some x2 := o.p2
      have : its2[i]? = some x2 := by simpa using q
      rw [hu2] at this
      cases this
      rfl
    subst hy1 hy2
    refine ⟨_, rfl, wpAny_letOwnedTupleGo_enum (s := { s with heap := h', toks := tk + 1 }) o.out fun h'' he' sb => ?_⟩
    have ke2 : ∀ b o', b ≠ e → h₁.get? b = some o' → h''.get? b = some o' := fun b o' hb q => (sb.2 b hb).trans (o.ke b o' hb q)
    have new1 : ObjOk X.prog X.w (upd H s.heap.objs.size (.tup [x, y])) h₁ s.heap.objs.size (.tup [x, y]) :=
      ⟨by show 2 ≤ sizeLine; decide, [x1, x2], .cons ru (.cons ru2 .nil), ⟨_, o.pair, rfl, _, rfl⟩⟩
    have I1 : Inv X pins σ (upd H s.heap.objs.size (.tup [x, y])) { s with heap := h₁, toks := tk } :=
      I.turnedNew (ch := [e, z, TI, TO, i1, i2]) (fun c o' hb q => o.kz c o' (fun q' => hb (by simp [q'])) (fun q' => hb (by simp [q'])) (fun q' => hb (by simp [q'])) (fun q' => hb (by simp [q'])) q) hf (Nat.le_refl _) new1
    have hlt : ∀ c ∈ [e, z, TI, TO, i1, i2], c < s.heap.objs.size := fun c hcm => by
      have e' : c = e ∨ c = z ∨ c = TI ∨ c = TO ∨ c = i1 ∨ c = i2 := by simpa using hcm
      rcases e' with q | q | q | q | q | q
      · rw [q]; exact hel
      · rw [q]; exact hzl
      · rw [q]; exact Heap.lt_size hTI
      · rw [q]; exact Heap.lt_size hTO
      · rw [q]; obtain ⟨_, q1, _⟩ := h1; exact Heap.lt_size q1
      · rw [q]; obtain ⟨_, q2, _⟩ := h2; exact Heap.lt_size q2
    have hf1 : ∀ c ∈ [e, z, TI, TO, i1, i2], FpOk X pins (upd H s.heap.objs.size (.tup [x, y])) c := fun c hcm => by
      obtain ⟨g0, g⟩ := hf c hcm
      exact ⟨by rw [upd_ne (Nat.ne_of_lt (hlt c hcm))]; exact g0, g⟩
    have hT2 : h''.get? (s.heap.objs.size + 1) = some { cls := .type "tuple", data := .seq #[.int i tk, .ref s.heap.objs.size] } := (sb.2 _ (Nat.ne_of_gt (Nat.lt_succ_of_lt hel))).trans o.tup
    have new2 : ObjOk X.prog X.w (upd (upd H s.heap.objs.size (.tup [x, y])) (s.heap.objs.size + 1) (.tup [.int (i : Nat), .ref s.heap.objs.size])) h'' (s.heap.objs.size + 1) (.tup [.int (i : Nat), .ref s.heap.objs.size]) :=
      ⟨by show 2 ≤ sizeLine; decide, [.int i tk, .ref s.heap.objs.size], .cons ⟨_, rfl⟩ (.cons rfl .nil), ⟨_, hT2, rfl, _, rfl⟩⟩
    have I2 : Inv X pins σ (upd (upd H s.heap.objs.size (.tup [x, y])) (s.heap.objs.size + 1) (.tup [.int (i : Nat), .ref s.heap.objs.size])) { s with heap := h'', toks := tk + 1 } :=
      I1.turnedNew (ch := [e, z, TI, TO, i1, i2]) (fun c o' hb q => ke2 c o' (fun q' => hb (by simp [q'])) q) hf1 (show h₁.objs.size ≤ s.heap.objs.size + 1 by rw [o.sz]; exact Nat.le_refl _) new2
    obtain ⟨b1, b2, hto⟩ := o.to
    refine ⟨.ref (s.heap.objs.size + 1), _, I2, rfl, ⟨s.heap.objs.size, s.heap.objs.size + 1, x, y, rfl, I.hok.fresh (Nat.le_refl _), I1.hok.fresh (show h₁.objs.size ≤ s.heap.objs.size + 1 by rw [o.sz]; exact Nat.le_refl _), rfl, fun l hl => by rw [I.tuple_inj hl hqx]; exact hx, fun l hl => by rw [I.tuple_inj hl hqy]; exact hy⟩, ⟨⟨.ref s.heap.objs.size, ?_⟩, ⟨f0', f1', ke2 _ _ (Ne.symm ez) o.zip, o.fld⟩, ?_, ⟨b1, b2, ke2 _ _ (Ne.symm eT) hto⟩, ?_, ?_⟩, fun c hcm => ?_⟩
    · rw [show ((i + 1 : Nat) : Int) = (i : Int) + 1 by omega]
      exact he'
    · exact ke2 _ _ (Ne.symm eI) (o.kz _ _ S.TIz S.TITO S.TIi1 S.TIi2 hTI)
    · exact o.s1.1.at fun o' q => ke2 _ _ (Ne.symm e1) q
    · exact o.s2.1.at fun o' q => ke2 _ _ (Ne.symm e2) q
    · rw [upd_ne (Nat.ne_of_lt (Nat.lt_succ_of_lt (hlt c hcm)))]
      exact (hf1 c hcm).1
  done := by
    intro X hP hw hK hc i pins s σ H E I hf st hg
    subst hP hw hK
    obtain ⟨⟨old, he⟩, ⟨f0, f1, hz, hfl⟩, hTI, ⟨x0, y0, hTO⟩, h1, h2⟩ := st
    obtain ⟨xs, ys, hqx, hqy, hend⟩ := hg
    obtain ⟨its, rv, p, _⟩ := I.tuple hqx
    obtain ⟨its2, rv2, p2, _⟩ := I.tuple hqy
    have l1 := rv.length
    have l2 := rv2.length
    have s1 : its.toArray.size = its.length := by simp
    have s2 : its2.toArray.size = its2.length := by simp
    have hh : X.A.in1.in1.handled = none := I.ok.hd hc
    exact pyNext_enumZ_end S (Draws.tuple hh i1 a na its.toArray) (Draws.tuple hh i2 b nb its2.toArray) he hz hfl hTI hTO ⟨h1, p⟩ ⟨h2, p2⟩ (by omega) (by omega) (by omega) fun h' tk hk => ⟨rfl, I.turnedL (t' := tk) (ch := [e, z, TI, TO, i1, i2]) (fun c o hb q =>
      hk c o (fun q' => hb (by simp [q'])) (fun q' => hb (by simp [q'])) (fun q' => hb (by simp [q'])) (fun q' => hb (by simp [q'])) q) hf⟩
  self := fun A i s Q E st h => let ⟨⟨_, he⟩, _⟩ := st; wpAny_pyIter_enum he h
theorem ez_ne {p q : Nat} (h : p ≠ q) : ¬ @Eq Addr p q := h
theorem ez_le {p q : Nat} (h : p ≤ q) : @LE.le Addr _ p q := h
theorem ez_mem {p q r : Nat} (h1 : p ≠ q) (h2 : p ≠ r) : ¬ (@Membership.mem Addr (List Addr) _ [q, r] p) := fun h => by
  have h : @Eq Nat p q ∨ @Eq Nat p r := by simpa using h
  omega
theorem ez_apart (n a b : Nat) (la : a < n) (lb : b < n) : ZipSep2 (n + 4) (n + 2) (n + 3) n (n + 1) [n, a] [n + 1, b] :=
  ⟨ez_ne (by omega), ez_ne (by omega), ez_ne (by omega), ez_ne (by omega), List.mem_cons_self .., ez_mem (by omega) (by omega), ez_mem (by omega) (by omega), ez_ne (by omega), List.mem_cons_self .., ez_mem (by omega) (by omega), ez_mem (by omega) (by omega), ez_mem (by omega) (by omega), ez_mem (by omega) (by omega)⟩
def iEnz (K : PySem.W.Frag) (ta : TA) : TI := fun σ H R => ta σ H fun vs H1 => ∃ a b xs ys, vs = [.ref a, .ref b] ∧ SqT K H1 a xs ∧ SqT K H1 b ys ∧ R (ItzE K a b) H1
theorem pi_enz {X : Cx} {e e2 : Expr} {ta : TA} {p p2 pos pos2 tpos : Pos} {elts : List Expr} {kk : Nat} (hg : Gl X "enumerate") (hm : X.mg "enumerate" = none) (hg2 : Gl X "zip") (hm2 : X.mg "zip" = none) (ha : PA X [e, e2] ta)
    (hs : starEach [e, e2] X.env = (false, eval e X.env) :: starEach [e2] X.env := by rfl) (hpl : (backTo pos2 (starEach [e2] X.env)).any (·.1) = false := by rfl) :
    PI X (.Tuple elts kk tpos) (.Call (.Name "enumerate" p) [.Call (.Name "zip" p2) [e, e2] [] pos2] [] pos) (iEnz X.K ta) := by
  refine ⟨fun pins s σ H R I h => ?_⟩
  have zc : wpAny (model X.prog X.w) X.A (eval (.Call (.Name "zip" p2) [e, e2] [] pos2) X.env) (fun v s' => ∃ (a b : Addr) (xs ys : List V) (H1 : Hp) (n : Nat), v = .ref (n + 4) ∧ s'.heap.objs.size = n + 5 ∧ IsZip s'.heap (n + 4) (n + 2) (n + 3) .none ∧ IsPair s'.heap (n + 2) (.ref n) (.ref (n + 1)) ∧ IsPair s'.heap (n + 3) .none .none ∧ s'.heap.IsTupleIter n a 0 ∧ s'.heap.IsTupleIter (n + 1) b 0 ∧ a < n ∧ b < n ∧ Inv X pins σ H1 s' ∧ (∀ c, n ≤ c → FpOk X pins H1 c) ∧ SqT X.K H1 a xs ∧ SqT X.K H1 b ys ∧ R (ItzE X.K a b) H1) X.xe s := by
    refine Call_ (ld_blt I hg2 hm2 PyProof.Rows.boot_zip (PyProof.Rows.callWith_type1 (thn (ha.run pos2 pins s σ H _ I h) fun us s1 ⟨vs, H1, I1, r1, q1⟩ => ?_) hs hpl))
    obtain ⟨a, b, xs, ys, ex, hqx, hqy, q⟩ := q1
    subst ex
    cases r1 with
    | cons r rr =>
      cases rr with
      | cons r' rr =>
        cases rr
        cases r
        cases r'
        obtain ⟨its, rv, p1, _⟩ := I1.tuple hqx
        obtain ⟨its2, rv2, p3, _⟩ := I1.tuple hqy
        obtain ⟨o1, ho1, _⟩ := id p1
        obtain ⟨o2, ho2, _⟩ := id p3
        refine RZ.call_zipT (show s1.heap.IsTuple a its.toArray from p1) (show s1.heap.IsTuple b its2.toArray from p3) fun h' hz hTI hTO h1 h2 hsz hk => ?_
        exact ⟨a, b, xs, ys, H1, s1.heap.objs.size, rfl, hsz, hz, hTI, hTO, h1, h2, Heap.lt_size ho1, Heap.lt_size ho2, I1.kept (t' := s1.toks) hk, fun c hc => I1.fpOk hc (I1.hok.fresh hc), hqx, hqy, q⟩
  refine Call_ (ld_blt I hg hm boot_enumerate (PyProof.Rows.callWith_type1 (args_cons (thn zc fun u s1 hx => args_nil ?_))))
  obtain ⟨a, b, xs, ys, H1, n, rfl, hsz, hz, hTI, hTO, h1, h2, la, lb, I1, hfp, hqx, hqy, q⟩ := hx
  refine call_enumZ hz fun h' he hsz' hk => wpAny_pyIter_enum he ?_
  have S : ZipSep2 (n + 4) (n + 2) (n + 3) n (n + 1) [n, a] [n + 1, b] := ez_apart n a b la lb
  have hs : @Eq Nat s1.heap.objs.size (n + 5) := hsz
  refine ⟨s1.heap.objs.size, [s1.heap.objs.size, n + 4, n + 2, n + 3, n, n + 1], _, _, H1, rfl, I1.kept (t' := s1.toks) hk, turn_enz S (ez_ne (by omega)) (ez_ne (by omega)) (ez_ne (by omega)) (ez_ne (by omega)) (ez_ne (by omega)) (Nat.ne_of_lt la) (Nat.ne_of_lt (Nat.lt_succ_of_lt lb)), ⟨⟨_, he⟩, ⟨_, _, hk _ _ hz, .inl rfl⟩, hk _ _ hTI, ⟨_, _, hk _ _ hTO⟩, h1.at fun o q => hk _ _ q, h2.at fun o q => hk _ _ q⟩, fun c hc => hfp c ?_, q⟩
  have e' : @Eq Nat c s1.heap.objs.size ∨ @Eq Nat c (n + 4) ∨ @Eq Nat c (n + 2) ∨ @Eq Nat c (n + 3) ∨ @Eq Nat c n ∨ @Eq Nat c (n + 1) := by simpa using hc
  exact ez_le (by omega)
end LS
/-! LsM: what is walked; comprehensions. -/
namespace LS
open PySem PySem.Spec PyProof.Rows L2
open RZ RT

section
variable {k : Nat} {S : Sta} {X : Cx} {K : PySem.W.Frag} {kd : List Kind} {O0 : AS} {H0 H H' Hs : Hp} {env env' : EnD} {σ : L2.St}
/-- what may happen between two turns: an honest value stands (m = str), or nothing but changed lists turn (m = vw) -/
def Src (kd : List Kind) (O0 : AS) (σ : L2.St) (m : Md) (H' : Hp) (O2 : AS) (H2 : Hp) : Prop := (∀ b, O2 b → ∃ xs, H2 b = some (.lst xs)) ∧ (match m with
  | .vw => Stays (Own kd O0 σ) O2 H' H2 ∧ Kp kd σ H' H2
  | _ => Stays (Own kd O0 σ) O2 H' H2)
theorem Src.st {m : Md} {O2 : AS} {H2 : Hp} (h : Src kd O0 σ m H' O2 H2) : Stays (Own kd O0 σ) O2 H' H2 := by
  cases m with
  | vw => exact h.2.1
  | str => exact h.2
  | fr => exact h.2
def ItOk (K : PySem.W.Frag) (kd : List Kind) (O0 : AS) (σ : L2.St) (m : Md) (H' : Hp) (J : It) (ds : List D) : Prop := ∃ (G : Hp → Prop) (Y : Nat → Hp → V → Hp → Prop), Walk J ds.length G Y ∧ (∀ O2 H2, Src kd O0 σ m H' O2 H2 → G H2) ∧
  ∀ O2 H2 i x H3, Src kd O0 σ m H' O2 H2 → Y i H2 x H3 → i < ds.length → (∀ b o, H2 b = some o → H3 b = some o) ∧ ∃ d, ds[i]? = some d ∧ Rep K O2 H3 d x
def IOk (k : Nat) (S : Sta) (X : Cx) (m : Md) (it : I) (wi : TI) : Prop := ∀ (O0 : AS) (H0 : Hp) (env : EnD) (σ : L2.St) (H : Hp) (ds : List D) (env' : EnD) (R : It → Hp → Prop), SR X.K S.kd O0 H0 env σ H → evI (run S.P k) S.P.gl it env = some (ds, env') →
  (∀ J H', SR X.K S.kd O0 H0 env' σ H' → Kp S.kd σ H H' → ItOk X.K S.kd O0 σ m H' J ds → R J H') → wi σ H R
def SndI (k : Nat) (S : Sta) (X : Cx) (m : Md) (it : I) (tg a : Expr) : Prop := ∃ wi, PI X tg a wi ∧ IOk k S X m it wi
theorem pi_or {tg a : Expr} {w1 w2 : TI} (h1 : PI X tg a w1) (h2 : PI X tg a w2) : PI X tg a (fun σ H R => w1 σ H R ∨ w2 σ H R) :=
  ⟨fun pins s σ H R I h => h.elim (h1.run pins s σ H R I) (h2.run pins s σ H R I)⟩
/-- a list or tuple as it stands through the turns -/
theorem mrep_seq {m : Md} {d : D} {v : V} {l : List D} (hm : m ≠ .fr) (h : MRep K kd O0 σ m H H' d v) (e : seqOf d = some l) :
    ∃ a xs, v = .ref a ∧ xs.length = l.length ∧ ((seqL d = some l ∧ SqL K H' a xs ∧ ∀ O2 H2, Src kd O0 σ m H' O2 H2 → SqL K H2 a xs ∧ Reps K O2 H2 l xs) ∨ (d = .tup l ∧ SqT K H' a xs ∧ ∀ O2 H2, Src kd O0 σ m H' O2 H2 → SqT K H2 a xs ∧ Reps K O2 H2 l xs)) := by
  cases d with
  | lst l0 =>
    have e : l0 = l := Option.some.inj e
    subst e
    have core : ∀ a xs, H' a = some (.lst xs) → Reps K (Own kd O0 σ) H' l0 xs → (∀ O2 H2, Src kd O0 σ m H' O2 H2 → H2 a = some (.lst xs)) → ∃ a' xs', V.ref a = .ref a' ∧ xs'.length = l0.length ∧ ((seqL (D.lst l0) = some l0 ∧ SqL K H' a' xs' ∧ ∀ O2 H2, Src kd O0 σ m H' O2 H2 → SqL K H2 a' xs' ∧ Reps K O2 H2 l0 xs') ∨ (D.lst l0 = .tup l0 ∧ SqT K H' a' xs' ∧ ∀ O2 H2, Src kd O0 σ m H' O2 H2 → SqT K H2 a' xs' ∧ Reps K O2 H2 l0 xs')) :=
      fun a xs e r hk => ⟨a, xs, rfl, r.len, .inl ⟨rfl, SqL.of e, fun O2 H2 q => ⟨SqL.of (hk O2 H2 q), r.mono q.st⟩⟩⟩
    cases m with
    | fr => exact absurd rfl hm
    | str =>
      have h2 : Rep K (Own kd O0 σ) H' (.lst l0) v := h
      unfold Rep at h2
      obtain ⟨a, xs, rfl, p, r⟩ := h2
      exact core a xs p.1 r fun O2 H2 q => (q.st _ _ p.1 p.2).1
    | vw =>
      obtain ⟨a, xs, rfl, p, r⟩ := (show RepV K kd O0 σ H' (.lst l0) v from h)
      have hp : H' a = some (.lst xs) ∧ ¬ Io kd σ a := by
        rcases p with p | p
        · exact p
        · exact ⟨p.1, fun z => p.2 (io_own z)⟩
      exact core a xs hp.1 r fun O2 H2 q => q.2.2 a _ hp.1 hp.2
  | tup l0 =>
    have e : l0 = l := Option.some.inj e
    subst e
    have h2 : Rep K (Own kd O0 σ) H' (.tup l0) v := by
      cases m with
      | fr => exact absurd rfl hm
      | str => exact h
      | vw => exact h
    unfold Rep at h2
    obtain ⟨a, xs, rfl, p, r⟩ := h2
    exact ⟨a, xs, rfl, r.len, .inr ⟨rfl, p.sq, fun O2 H2 q => ⟨(p.mono q.st).sq, r.mono q.st⟩⟩⟩
  | scr l0 =>
    have e : l0.map D.int = l := Option.some.inj e
    subst e
    have h2 : Rep K (Own kd O0 σ) H' (.scr l0) v := by
      cases m with
      | fr => exact absurd rfl hm
      | str => exact h
      | vw => exact h
    unfold Rep at h2
    obtain ⟨a, rfl, p⟩ := h2
    exact ⟨a, l0.map V.int, rfl, by rw [List.length_map, List.length_map], .inl ⟨rfl, p.sq, fun O2 H2 q => ⟨(p.mono q.st).sq, .ints⟩⟩⟩
  | _ => cases e
theorem it_at {m : Md} {J : It} {l : List D} {xs : List V} {G : Hp → Prop} (w : Walk J l.length G (YAt xs)) (hg : ∀ O2 H2, Src kd O0 σ m H' O2 H2 → G H2 ∧ Reps K O2 H2 l xs) : ItOk K kd O0 σ m H' J l :=
  ⟨G, _, w, fun O2 H2 q => (hg O2 H2 q).1, fun O2 H2 i x H3 q y hi => by
    obtain ⟨rfl, hx⟩ := y
    refine ⟨fun _ _ z => z, ?_⟩
    obtain ⟨d, hd⟩ : ∃ d, l[i]? = some d := ⟨l[i], by simp [hi]⟩
    obtain ⟨v, h1, h2⟩ := (hg O2 _ q).2.get hd
    rw [hx] at h1
    cases h1
    exact ⟨d, hd, h2⟩⟩
theorem i_seq {m : Md} {e : E} {tg a : Expr} (hm : m ≠ .fr) (h : SndE k S X m e a) : SndI k S X m (.seq e) tg a := by
  obtain ⟨t, p, ee⟩ := h
  refine ⟨_, pi_or (pi_list p) (pi_tup p), fun O0 H0 env σ H ds env' R s he q => ?_⟩
  unfold evI at he
  obtain ⟨⟨d1, e1⟩, h1, he⟩ := bindS he
  obtain ⟨l, h2, he⟩ := Option.map_eq_some_iff.mp he
  obtain ⟨rfl, rfl⟩ := Prod.mk.inj he
  by_cases hl : seqL d1 = some l
  · refine .inl (ee O0 H0 env σ H d1 _ _ s h1 (fun z => absurd z hm) fun v H1 s1 k1 r1 => ?_)
    obtain ⟨a, xs, rfl, hlen, hx⟩ := mrep_seq hm r1 h2
    rcases hx with ⟨_, e0, hx⟩ | ⟨rfl, _⟩
    · refine ⟨a, rfl, ⟨xs, e0⟩, q _ H1 s1 k1 (it_at (xs := xs) (by rw [← hlen]; exact walk_list) hx)⟩
    · cases hl
  · refine .inr (ee O0 H0 env σ H d1 _ _ s h1 (fun z => absurd z hm) fun v H1 s1 k1 r1 => ?_)
    obtain ⟨a, xs, rfl, hlen, hx⟩ := mrep_seq hm r1 h2
    rcases hx with ⟨z, _⟩ | ⟨rfl, e0, hx⟩
    · exact absurd z hl
    · exact ⟨a, rfl, ⟨xs, e0⟩, q _ H1 s1 k1 (it_at (xs := xs) (by rw [← hlen]; exact walk_tup) hx)⟩
theorem rng_len {lo : Int} {n : Nat} : (rng lo n).length = n := by unfold rng; rw [List.length_map, List.length_range]
theorem rng_get {lo : Int} {n i : Nat} (h : i < n) : (rng lo n)[i]? = some (.int (lo + (i : Nat))) := by
  unfold rng
  rw [List.getElem?_map, List.getElem?_range h]
  rfl
theorem it_fn {m : Md} {J : It} {ds : List D} {f : Nat → V} (w : Walk J ds.length (fun _ => True) (YFn f)) (hf : ∀ i, i < ds.length → ∃ n : Int, ds[i]? = some (.int n) ∧ f i = .int n) : ItOk K kd O0 σ m H' J ds :=
  ⟨_, _, w, fun _ _ _ => trivial, fun O2 H2 i x H3 q y hi => by
    obtain ⟨rfl, rfl⟩ := y
    obtain ⟨n, h1, h2⟩ := hf i hi
    exact ⟨fun _ _ z => z, _, h1, by rw [h2]; unfold Rep; rfl⟩⟩
theorem okR_ok {i : Int} (h : okR i = true) : -(2 ^ 62) ≤ i ∧ i < 2 ^ 62 := by
  unfold okR at h
  rw [Bool.and_eq_true] at h
  exact ⟨of_decide_eq_true h.1, of_decide_eq_true h.2⟩
theorem i_rng1 (c : Ctx k S X) {m : Md} {e : E} {tg a : Expr} {x : Str} {p pos : Pos} (hx : x = ("range" : Str)) (hg : isGl S.sc x = true) (hb : x ∈ S.bl) (hn : noStar a = true) (h : SndE k S X .vw e a) : SndI k S X m (.rng1 e) tg (.Call (.Name x p) [a] [] pos) := by
  obtain ⟨t, pe, ee⟩ := h
  subst hx
  refine ⟨_, pi_range1 (gl_of c hg) (c.bl _ hb) (pa_cons pe pa_nil (star1 hn)) (star1 hn), fun O0 H0 env σ H ds env' R s he q => ?_⟩
  unfold evI at he
  obtain ⟨⟨d1, e1⟩, h1, he⟩ := bindS he
  have hi : ∃ n, d1 = .int n ∧ okR n = true ∧ (rng 0 n.toNat, e1) = (ds, env') := by
    cases d1 <;> first | cases he | skip
    rename_i n
    have he : (if okR n then some (rng 0 n.toNat, e1) else none) = some (ds, env') := he
    split at he
    · cases he; exact ⟨_, rfl, by assumption, rfl⟩
    · cases he
  obtain ⟨n, rfl, h2, h3⟩ := hi
  obtain ⟨rfl, rfl⟩ := Prod.mk.inj h3
  refine ee O0 H0 env σ H _ e1 _ s h1 (fun z => by cases z) fun v H1 s1 k1 r1 => ?_
  have ev : v = .int n := RepV.int (show RepV X.K S.kd O0 σ H1 (.int n) v from r1)
  subst ev
  obtain ⟨h3, h4⟩ := okR_ok h2
  exact ⟨n, rfl, h3, h4, q _ H1 s1 k1 (it_fn (f := fun i => .int (0 + (i : Nat))) (by rw [rng_len]; exact walk_range) fun i hi => by
    rw [rng_len] at hi
    exact ⟨_, rng_get hi, rfl⟩)⟩
theorem i_rng2 (c : Ctx k S X) {m : Md} {e f : E} {tg a b : Expr} {x : Str} {p pos : Pos} (hx : x = ("range" : Str)) (hg : isGl S.sc x = true) (hb : x ∈ S.bl) (hn : noStar a = true) (hn2 : noStar b = true) (h : SndE k S X .vw e a) (h' : SndE k S X .vw f b) : SndI k S X m (.rng2 e f) tg (.Call (.Name x p) [a, b] [] pos) := by
  obtain ⟨t, pe, ee⟩ := h
  obtain ⟨t2, pe2, ee2⟩ := h'
  subst hx
  refine ⟨_, pi_range2 (gl_of c hg) (c.bl _ hb) (pa_cons pe (pa_cons pe2 pa_nil (star1 hn2)) (star1 hn)) (by rw [star1 hn, star1 hn2]; rfl) (star1 hn2), fun O0 H0 env σ H ds env' R s he q => ?_⟩
  unfold evI at he
  obtain ⟨⟨d1, e1⟩, h1, he⟩ := bindS he
  obtain ⟨⟨d2, e2⟩, h2, he⟩ := bindS he
  have hi : ∃ i j, d1 = .int i ∧ d2 = .int j ∧ okR i = true ∧ okR j = true ∧ (rng i (j - i).toNat, e2) = (ds, env') := by
    cases d1 with
    | int i => ?_
    | _ => cases he
    cases d2 with
    | int j => ?_
    | _ => cases he
    have he : (if okR i && okR j then some (rng i (j - i).toNat, e2) else none) = some (ds, env') := he
    split at he
    · rename_i hk
      rw [Bool.and_eq_true] at hk
      cases he
      exact ⟨_, _, rfl, rfl, hk.1, hk.2, rfl⟩
    · cases he
  obtain ⟨i, j, rfl, rfl, g1, g2, g3⟩ := hi
  cases g3
  refine seq2 (by decide) ee ee2 (by decide) s h1 h2 fun v w H2 s2 k2 r1 r2 => ?_
  have ev : v = .int i := RepV.int (show RepV X.K S.kd O0 σ H2 (.int i) v from r1)
  have ew : w = .int j := RepV.int (show RepV X.K S.kd O0 σ H2 (.int j) w from r2)
  subst ev ew
  obtain ⟨g4, g5⟩ := okR_ok g1
  obtain ⟨g6, g7⟩ := okR_ok g2
  exact ⟨i, j, rfl, ⟨g4, g5, g6, g7⟩, q _ H2 s2 k2 (it_fn (f := fun n => .int (i + (n : Nat))) (by rw [rng_len]; exact walk_range) fun n hn => by
    rw [rng_len] at hn
    exact ⟨_, rng_get hn, rfl⟩)⟩
theorem rngD_len {i : Int} {n : Nat} : (rngD i n).length = n := by
  unfold rngD
  rw [List.length_map, List.length_range]
theorem rngD_get {lo : Int} {n i : Nat} (h : i < n) : (rngD lo n)[i]? = some (.int (lo + (i : Nat) * (-1))) := by
  unfold rngD
  rw [List.getElem?_map, List.getElem?_range h]
  rfl
theorem i_rng3 (c : Ctx k S X) {m : Md} {e f g : E} {tg a b d : Expr} {x : Str} {p pos : Pos} (hx : x = ("range" : Str)) (hg : isGl S.sc x = true) (hb : x ∈ S.bl) (hn : noStar a = true) (hn2 : noStar b = true) (hn3 : noStar d = true) (h : SndE k S X .vw e a) (h' : SndE k S X .vw f b) (h'' : SndE k S X .vw g d) : SndI k S X m (.rng3 e f g) tg (.Call (.Name x p) [a, b, d] [] pos) := by
  obtain ⟨t, pe, ee⟩ := h
  obtain ⟨t2, pe2, ee2⟩ := h'
  obtain ⟨t3, pe3, ee3⟩ := h''
  subst hx
  have hs2 : [b, d].all noStar = true := by simp [hn2, hn3]
  refine ⟨_, pi_range3 (gl_of c hg) (c.bl _ hb) (pa_cons pe (pa_cons pe2 (pa_cons pe3 pa_nil (star1 hn3)) (star1 hn2)) (star1 hn)) (star1 hn) (star2 hs2 _ _), fun O0 H0 env σ H ds env' R s he q => ?_⟩
  unfold evI at he
  obtain ⟨⟨d1, e1⟩, h1, he⟩ := bindS he
  obtain ⟨⟨d2, e2⟩, h2, he⟩ := bindS he
  obtain ⟨⟨d3, e3⟩, h3, he⟩ := bindS he
  have hi : ∃ i j, d1 = .int i ∧ d2 = .int j ∧ d3 = .int (-1) ∧ okR i = true ∧ okR j = true ∧ (rngD i (i - j).toNat, e3) = (ds, env') := by
    cases d1 with
    | int i => ?_
    | _ => cases he
    cases d2 with
    | int j => ?_
    | _ => cases he
    cases d3 with
    | int t => ?_
    | _ => cases he
    have he : (if okR i && okR j && decide (t = -1) then some (rngD i (i - j).toNat, e3) else none) = some (ds, env') := he
    split at he
    · rename_i hk
      rw [Bool.and_eq_true, Bool.and_eq_true, decide_eq_true_eq] at hk
      cases he
      exact ⟨_, _, rfl, rfl, by rw [hk.2], hk.1.1, hk.1.2, rfl⟩
    · cases he
  obtain ⟨i, j, rfl, rfl, rfl, g1, g2, g3⟩ := hi
  cases g3
  refine ee O0 H0 env σ H _ e1 _ s h1 (fun z => by cases z) fun v H1 s1 k1 r1 => ?_
  refine ee2 O0 H0 e1 σ H1 _ e2 _ s1 h2 (fun z => by cases z) fun w H2 s2 k2 r2 => ?_
  refine ee3 O0 H0 e2 σ H2 _ _ _ s2 h3 (fun z => by cases z) fun z H3 s3 k3 r3 => ?_
  have ev : v = .int i := RepV.int (show RepV X.K S.kd O0 σ H1 (.int i) v from r1)
  have ew : w = .int j := RepV.int (show RepV X.K S.kd O0 σ H2 (.int j) w from r2)
  have ez : z = .int (-1) := RepV.int (show RepV X.K S.kd O0 σ H3 (.int (-1)) z from r3)
  subst ev ew ez
  obtain ⟨g4, g5⟩ := okR_ok g1
  obtain ⟨g6, g7⟩ := okR_ok g2
  exact ⟨i, j, -1, (i - j).toNat, rfl, RgC.neg g4 g5 g6 g7, q _ H3 s3 ((k1.trans k2).trans k3) (it_fn (f := fun n => .int (i + (n : Nat) * (-1))) (by rw [rngD_len]; exact walk_rangeC) fun n hn => by
    rw [rngD_len] at hn
    exact ⟨_, rngD_get hn, rfl⟩)⟩
theorem enumF_len : ∀ {l : List D} {n : Nat}, (enumF l n).length = l.length
  | [], _ => rfl
  | _ :: r, n => by unfold enumF; rw [List.length_cons, List.length_cons, enumF_len]
theorem enumF_get : ∀ {l : List D} {n i : Nat} {d : D}, l[i]? = some d → (enumF l n)[i]? = some (.tup [.int ((n + i : Nat)), d])
  | [], _, _, _, h => by simp at h
  | x :: r, n, 0, d, h => by
    simp at h
    subst h
    rfl
  | x :: r, n, i + 1, d, h => by
    unfold enumF
    rw [List.getElem?_cons_succ, enumF_get (by simpa using h)]
    rw [show n + 1 + i = n + (i + 1) by omega]
theorem zipF_get : ∀ {l m : List D} {i : Nat} {d e : D}, l[i]? = some d → m[i]? = some e → (zipF l m)[i]? = some (.tup [d, e])
  | [], _, _, _, _, h, _ => by simp at h
  | _ :: _, [], _, _, _, _, h => by simp at h
  | x :: r, y :: t, 0, d, e, h, h2 => by
    simp at h h2
    subst h h2
    rfl
  | x :: r, y :: t, i + 1, d, e, h, h2 => by
    unfold zipF
    rw [List.getElem?_cons_succ]
    exact zipF_get (by simpa using h) (by simpa using h2)
theorem zipF_len : ∀ {l m : List D}, (zipF l m).length = min l.length m.length
  | [], m => by unfold zipF; simp
  | _ :: _, [] => by unfold zipF; simp
  | x :: r, y :: t => by unfold zipF; rw [List.length_cons, List.length_cons, List.length_cons, zipF_len]; omega
/-- new pairs -/
theorem it_pair {m : Md} {J : It} {ds : List D} {G : Hp → Prop} {f g : Nat → Option V} (w : Walk J ds.length G (YPair f g)) (hg : ∀ O2 H2, Src kd O0 σ m H' O2 H2 → G H2)
    (hf : ∀ O2 H2 i x y, Src kd O0 σ m H' O2 H2 → i < ds.length → f i = some x → g i = some y → ∃ d e, ds[i]? = some (.tup [d, e]) ∧ Rep K O2 H2 d x ∧ Rep K O2 H2 e y) : ItOk K kd O0 σ m H' J ds :=
  ⟨G, _, w, hg, fun O2 H2 i x H3 q y hi => by
    obtain ⟨T, x1, x2, rfl, n, rfl, h1, h2⟩ := y
    obtain ⟨d, e, h3, r1, r2⟩ := hf O2 H2 i x1 x2 q hi h1 h2
    refine ⟨upd_keeps n, _, h3, ?_⟩
    unfold Rep
    refine ⟨T, [x1, x2], rfl, .inl ⟨.inl upd_same, fun z => ?_⟩, ?_⟩
    · obtain ⟨ys, e2⟩ := q.1 T z
      rw [n] at e2
      cases e2
    · exact (Reps.cons r1 (.one r2)).mono fun b o hb hn => ⟨upd_keeps n b o hb, hn⟩⟩
theorem walk_enumT {a : Addr} {xs : List V} : Walk (IteT K a) xs.length (fun H => SqT K H a xs) (YPair (fun i => some (.int (i : Nat))) (fun i => xs[i]?)) := by
  refine ⟨fun i _ hi q => ⟨xs, xs[i], q, by simp [hi]⟩, fun _ q => ⟨xs, q, Nat.le_refl _⟩, fun i H v H' _ q ⟨T, x, h1, h2, h3, h4⟩ => ⟨T, .int (i : Nat), x, h1, h2, h3, rfl, h4 xs q⟩⟩
theorem i_enum (c : Ctx k S X) {m : Md} {e : E} {tg a : Expr} {x : Str} {p pos : Pos} (hm : m ≠ .fr) (ht : isTupE tg = true) (hx : x = ("enumerate" : Str)) (hg : isGl S.sc x = true) (hb : x ∈ S.bl) (hn : noStar a = true) (h : SndE k S X m e a) : SndI k S X m (.enum e) tg (.Call (.Name x p) [a] [] pos) := by
  obtain ⟨t, pe, ee⟩ := h
  subst hx
  cases tg <;> first | (cases ht; done) | skip
  refine ⟨_, pi_enumA (gl_of c hg) (c.bl _ hb) (pa_cons pe pa_nil (star1 hn)) (star1 hn), fun O0 H0 env σ H ds env' R s he q => ?_⟩
  unfold evI at he
  obtain ⟨⟨d1, e1⟩, h1, he⟩ := bindS he
  obtain ⟨l, h2, he⟩ := Option.map_eq_some_iff.mp he
  obtain ⟨rfl, rfl⟩ := Prod.mk.inj he
  refine ee O0 H0 env σ H d1 _ _ s h1 (fun z => absurd z hm) fun v H1 s1 k1 r1 => ?_
  obtain ⟨a, xs, rfl, hlen, hx⟩ := mrep_seq hm r1 h2
  have fin : ∀ O2 H2 i x y, Reps X.K O2 H2 l xs → i < (enumF l 0).length → some (V.int (i : Nat)) = some x → xs[i]? = some y → ∃ d e, (enumF l 0)[i]? = some (.tup [d, e]) ∧ Rep X.K O2 H2 d x ∧ Rep X.K O2 H2 e y := fun O2 H2 i x y z hi e1 e2 => by
    rw [enumF_len] at hi
    obtain ⟨d, hd⟩ : ∃ d, l[i]? = some d := ⟨l[i], by simp [hi]⟩
    obtain ⟨v, h4, h5⟩ := z.get hd
    rw [e2] at h4
    cases h4
    cases e1
    exact ⟨_, d, enumF_get hd, by rw [Nat.zero_add]; unfold Rep; rfl, h5⟩
  rcases hx with ⟨_, e0, hx⟩ | ⟨rfl, e0, hx⟩
  · exact ⟨a, xs, rfl, .inl ⟨e0, q _ H1 s1 k1 (it_pair (G := fun H => SqL X.K H a xs) (by rw [enumF_len, ← hlen]; exact walk_enum) (fun O2 H2 z => (hx O2 H2 z).1) fun O2 H2 i x y z hi e1 e2 => fin O2 H2 i x y (hx O2 H2 z).2 hi e1 e2)⟩⟩
  · exact ⟨a, xs, rfl, .inr ⟨e0, q _ H1 s1 k1 (it_pair (G := fun H => SqT X.K H a xs) (by rw [enumF_len, ← hlen]; exact walk_enumT) (fun O2 H2 z => (hx O2 H2 z).1) fun O2 H2 i x y z hi e1 e2 => fin O2 H2 i x y (hx O2 H2 z).2 hi e1 e2)⟩⟩
theorem walk_zipT {a b : Addr} {xs ys : List V} {n : Nat} (hn : n = min xs.length ys.length) : Walk (ItzT K a b) n (fun H => SqT K H a xs ∧ SqT K H b ys) (YPair (fun i => xs[i]?) (fun i => ys[i]?)) := by
  subst hn
  refine ⟨fun i H hi q => ?_, fun H q => ⟨xs, ys, q.1, q.2, by omega⟩, fun i H v H' hi q ⟨T, x, z, g1, g2, g3, g4, g5⟩ => ⟨T, x, z, g1, g2, g3, g4 xs q.1, g5 ys q.2⟩⟩
  have l1 : i < xs.length := by omega
  have l2 : i < ys.length := by omega
  exact ⟨xs, ys, xs[i], ys[i], q.1, q.2, by simp [l1], by simp [l2]⟩
theorem i_zip (c : Ctx k S X) {m : Md} {e f : E} {tg a b : Expr} {x : Str} {p pos : Pos} (hm : m ≠ .fr) (ht : isTupE tg = true) (hx : x = ("zip" : Str)) (hg : isGl S.sc x = true) (hb : x ∈ S.bl) (hn : noStar a = true) (hn2 : noStar b = true) (h : SndE k S X m e a) (h' : SndE k S X m f b) : SndI k S X m (.zip e f) tg (.Call (.Name x p) [a, b] [] pos) := by
  obtain ⟨t, pe, ee⟩ := h
  obtain ⟨t2, pe2, ee2⟩ := h'
  subst hx
  cases tg <;> first | (cases ht; done) | skip
  have hs2 : [b].all noStar = true := by rw [List.all_cons, hn2]; rfl
  refine ⟨_, pi_zipA (gl_of c hg) (c.bl _ hb) (pa_cons pe (pa_cons pe2 pa_nil (star1 hn2)) (star1 hn)) (star1 hn) (star2 hs2 _ _), fun O0 H0 env σ H ds env' R s he q => ?_⟩
  unfold evI at he
  obtain ⟨⟨d1, e1⟩, h1, he⟩ := bindS he
  obtain ⟨⟨d2, e2⟩, h2, he⟩ := bindS he
  have hi : ∃ l r, seqOf d1 = some l ∧ seqOf d2 = some r ∧ ((seqL d1 = some l ∧ seqL d2 = some r) ∨ (d1 = .tup l ∧ d2 = .tup r)) ∧ (zipF l r, e2) = (ds, env') := by
    cases d1 <;> first | (cases he; done) | skip
    · cases d2 <;> first | (cases he; done) | (cases he; exact ⟨_, _, rfl, rfl, .inr ⟨rfl, rfl⟩, rfl⟩)
    · cases d2 <;> first | (cases he; done) | (cases he; exact ⟨_, _, rfl, rfl, .inl ⟨rfl, rfl⟩, rfl⟩)
  obtain ⟨l, r, g1, g2, g3, g4⟩ := hi
  cases g4
  refine seq2 hm ee ee2 hm s h1 h2 fun v w H2 s2 k2 r1 r2 => ?_
  obtain ⟨a, xs, rfl, hlen, hx⟩ := mrep_seq hm r1 g1
  obtain ⟨b, ys, rfl, hlen2, hy⟩ := mrep_seq hm r2 g2
  have hl : (zipF l r).length = min xs.length ys.length := by rw [zipF_len, hlen, hlen2]
  have fin : ∀ O2 H2 i x y, Reps X.K O2 H2 l xs → Reps X.K O2 H2 r ys → i < (zipF l r).length → xs[i]? = some x → ys[i]? = some y → ∃ d e, (zipF l r)[i]? = some (.tup [d, e]) ∧ Rep X.K O2 H2 d x ∧ Rep X.K O2 H2 e y := fun O2 H2 i x y p1 p2 hi e1 e2 => by
    have i1 : i < l.length := by rw [zipF_len] at hi; omega
    have i2 : i < r.length := by rw [zipF_len] at hi; omega
    obtain ⟨v1, f1, f2⟩ := p1.get (show l[i]? = some l[i] by simp [i1])
    obtain ⟨v2, f3, f4⟩ := p2.get (show r[i]? = some r[i] by simp [i2])
    rw [e1] at f1
    rw [e2] at f3
    cases f1
    cases f3
    exact ⟨l[i], r[i], zipF_get (by simp [i1]) (by simp [i2]), f2, f4⟩
  rcases hx with ⟨z1, e0, hx⟩ | ⟨rfl, e0, hx⟩
  · rcases hy with ⟨z2, e3, hy⟩ | ⟨rfl, _⟩
    · exact ⟨a, b, xs, ys, rfl, .inl ⟨e0, e3, q _ H2 s2 k2 (it_pair (walk_zip hl) (fun O2 H3 z => ⟨(hx O2 H3 z).1, (hy O2 H3 z).1⟩) fun O2 H3 i x y z hi e1 e2 => fin O2 H3 i x y (hx O2 H3 z).2 (hy O2 H3 z).2 hi e1 e2)⟩⟩
    · rcases g3 with ⟨_, z⟩ | ⟨z, _⟩
      · cases z
      · subst z; cases z1
  · rcases hy with ⟨z2, e3, hy⟩ | ⟨rfl, e3, hy⟩
    · rcases g3 with ⟨z, _⟩ | ⟨_, z⟩
      · cases z
      · subst z; cases z2
    · exact ⟨a, b, xs, ys, rfl, .inr ⟨e0, e3, q _ H2 s2 k2 (it_pair (walk_zipT hl) (fun O2 H3 z => ⟨(hx O2 H3 z).1, (hy O2 H3 z).1⟩) fun O2 H3 i x y z hi e1 e2 => fin O2 H3 i x y (hx O2 H3 z).2 (hy O2 H3 z).2 hi e1 e2)⟩⟩
/-- the count, and a new pair -/
def YTrip (xs ys : List V) : Nat → Hp → V → Hp → Prop := fun i H v H' => ∃ N T x y, v = .ref T ∧ H N = none ∧ upd H N (.tup [x, y]) T = none ∧ H' = upd (upd H N (.tup [x, y])) T (.tup [.int (i : Nat), .ref N]) ∧ xs[i]? = some x ∧ ys[i]? = some y
theorem walk_enz {a b : Addr} {xs ys : List V} {n : Nat} (hn : n = min xs.length ys.length) : Walk (ItzE K a b) n (fun H => SqT K H a xs ∧ SqT K H b ys) (YTrip xs ys) := by
  subst hn
  refine ⟨fun i H hi q => ?_, fun H q => ⟨xs, ys, q.1, q.2, by omega⟩, fun i H v H' hi q ⟨N, T, x, y, g1, g2, g3, g4, g5, g6⟩ => ⟨N, T, x, y, g1, g2, g3, g4, g5 xs q.1, g6 ys q.2⟩⟩
  have l1 : i < xs.length := by omega
  have l2 : i < ys.length := by omega
  exact ⟨xs, ys, xs[i], ys[i], q.1, q.2, by simp [l1], by simp [l2]⟩
theorem it_trip {m : Md} {J : It} {ds : List D} {G : Hp → Prop} {xs ys : List V} (w : Walk J ds.length G (YTrip xs ys)) (hg : ∀ O2 H2, Src kd O0 σ m H' O2 H2 → G H2)
    (hf : ∀ O2 H2 i x y, Src kd O0 σ m H' O2 H2 → i < ds.length → xs[i]? = some x → ys[i]? = some y → ∃ d e, ds[i]? = some (.tup [.int (i : Nat), .tup [d, e]]) ∧ Rep K O2 H2 d x ∧ Rep K O2 H2 e y) : ItOk K kd O0 σ m H' J ds :=
  ⟨G, _, w, hg, fun O2 H2 i x H3 q y hi => by
    obtain ⟨N, T, x1, x2, rfl, n1, n2, rfl, h1, h2⟩ := y
    obtain ⟨d, e, h3, r1, r2⟩ := hf O2 H2 i x1 x2 q hi h1 h2
    have nT : N ≠ T := fun z => by
      rw [← z, upd_same] at n2
      cases n2
    have n3 : H2 T = none := by
      rw [upd_ne (Ne.symm nT)] at n2
      exact n2
    refine ⟨fun b o hb => upd_keeps n2 b o (upd_keeps n1 b o hb), _, h3, ?_⟩
    unfold Rep
    refine ⟨T, [.int (i : Nat), .ref N], rfl, .inl ⟨.inl upd_same, fun z => ?_⟩, Reps.cons (by unfold Rep; rfl) (.one ?_)⟩
    · obtain ⟨ys, e2⟩ := q.1 T z
      rw [n3] at e2
      cases e2
    · unfold Rep
      refine ⟨N, [x1, x2], rfl, .inl ⟨.inl ((upd_ne nT).trans upd_same), fun z => ?_⟩, (Reps.cons r1 (.one r2)).mono fun b o hb hn => ⟨upd_keeps n2 b o (upd_keeps n1 b o hb), hn⟩⟩
      obtain ⟨ys, e2⟩ := q.1 N z
      rw [n1] at e2
      cases e2⟩
theorem i_enz (c : Ctx k S X) {m : Md} {e f : E} {tg a b : Expr} {x y : Str} {p p2 pos pos2 : Pos} (hm : m ≠ .fr) (ht : isTupE tg = true) (hx : x = ("enumerate" : Str)) (hg : isGl S.sc x = true) (hb : x ∈ S.bl) (hy : y = ("zip" : Str)) (hg2 : isGl S.sc y = true) (hb2 : y ∈ S.bl) (hn : noStar a = true) (hn2 : noStar b = true) (h : SndE k S X m e a) (h' : SndE k S X m f b) : SndI k S X m (.enz e f) tg (.Call (.Name x p) [.Call (.Name y p2) [a, b] [] pos2] [] pos) := by
  obtain ⟨t, pe, ee⟩ := h
  obtain ⟨t2, pe2, ee2⟩ := h'
  subst hx hy
  cases tg <;> first | (cases ht; done) | skip
  have hs2 : [b].all noStar = true := by rw [List.all_cons, hn2]; rfl
  refine ⟨_, pi_enz (gl_of c hg) (c.bl _ hb) (gl_of c hg2) (c.bl _ hb2) (pa_cons pe (pa_cons pe2 pa_nil (star1 hn2)) (star1 hn)) (star1 hn) (star2 hs2 _ _), fun O0 H0 env σ H ds env' R s he q => ?_⟩
  unfold evI at he
  obtain ⟨⟨d1, e1⟩, h1, he⟩ := bindS he
  obtain ⟨⟨d2, e2⟩, h2, he⟩ := bindS he
  have hi : ∃ l r, d1 = .tup l ∧ d2 = .tup r ∧ (enumF (zipF l r) 0, e2) = (ds, env') := by
    cases d1 <;> first | (cases he; done) | skip
    cases d2 <;> first | (cases he; done) | (cases he; exact ⟨_, _, rfl, rfl, rfl⟩)
  obtain ⟨l, r, rfl, rfl, g4⟩ := hi
  cases g4
  refine seq2 hm ee ee2 hm s h1 h2 fun v w H2 s2 k2 r1 r2 => ?_
  obtain ⟨a, xs, rfl, hlen, hx⟩ := mrep_seq hm r1 rfl
  obtain ⟨b, ys, rfl, hlen2, hy⟩ := mrep_seq hm r2 rfl
  rcases hx with ⟨z1, _⟩ | ⟨_, e0, hx⟩
  · cases z1
  rcases hy with ⟨z1, _⟩ | ⟨_, e3, hy⟩
  · cases z1
  refine ⟨a, b, xs, ys, rfl, e0, e3, q _ H2 s2 k2 (it_trip (xs := xs) (ys := ys) (walk_enz (by rw [enumF_len, zipF_len, hlen, hlen2])) (fun O2 H3 z => ⟨(hx O2 H3 z).1, (hy O2 H3 z).1⟩) fun O2 H3 i x y z hi e1 e2 => ?_)⟩
  rw [enumF_len, zipF_len] at hi
  have i1 : i < l.length := by omega
  have i2 : i < r.length := by omega
  obtain ⟨v1, f1, f2⟩ := (hx O2 H3 z).2.get (show l[i]? = some l[i] by simp [i1])
  obtain ⟨v2, f3, f4⟩ := (hy O2 H3 z).2.get (show r[i]? = some r[i] by simp [i2])
  rw [e1] at f1
  rw [e2] at f3
  cases f1
  cases f3
  have hd := enumF_get (n := 0) (zipF_get (show l[i]? = some l[i] by simp [i1]) (show r[i]? = some r[i] by simp [i2]))
  rw [Nat.zero_add] at hd
  exact ⟨l[i], r[i], hd, f2, f4⟩
theorem walk_revT {a : Addr} {xs : List V} : Walk (ItvT K a xs.length) xs.length (fun H => SqT K H a xs) (fun i H x H' => H' = H ∧ xs[xs.length - 1 - i]? = some x) := by
  refine ⟨fun i H hi q => ⟨hi, xs, xs[xs.length - 1 - i]'(by omega), q, ?_⟩, fun H q => Nat.le_refl _, fun i H x H' hi q y => ⟨y.1, y.2 xs q⟩⟩
  have : xs.length - 1 - i < xs.length := by omega
  simp [this]
theorem it_rev {m : Md} {J : It} {l : List D} {xs : List V} {G : Hp → Prop} (hl : xs.length = l.length) (w : Walk J l.length G (fun i H x H' => H' = H ∧ xs[xs.length - 1 - i]? = some x)) (hg : ∀ O2 H2, Src kd O0 σ m H' O2 H2 → G H2 ∧ Reps K O2 H2 l xs) : ItOk K kd O0 σ m H' J l.reverse :=
  ⟨G, _, by rw [List.length_reverse]; exact w, fun O2 H2 q => (hg O2 H2 q).1, fun O2 H2 i x H3 q y hi => by
    obtain ⟨rfl, hx⟩ := y
    rw [List.length_reverse] at hi
    refine ⟨fun _ _ z => z, ?_⟩
    obtain ⟨v, h1, h2⟩ := (hg O2 _ q).2.get (show l[l.length - 1 - i]? = some (l[l.length - 1 - i]'(by omega)) by simp [show l.length - 1 - i < l.length by omega])
    rw [hl] at hx
    rw [hx] at h1
    cases h1
    refine ⟨_, ?_, h2⟩
    rw [List.getElem?_reverse hi]
    simp [show l.length - 1 - i < l.length by omega]⟩
theorem i_rev (c : Ctx k S X) {m : Md} {e : E} {tg a : Expr} {x : Str} {p pos : Pos} (hm : m ≠ .fr) (hx : x = ("reversed" : Str)) (hg : isGl S.sc x = true) (hb : x ∈ S.bl) (hn : noStar a = true) (h : SndE k S X m e a) : SndI k S X m (.rev e) tg (.Call (.Name x p) [a] [] pos) := by
  obtain ⟨t, pe, ee⟩ := h
  subst hx
  refine ⟨_, pi_revA (gl_of c hg) (c.bl _ hb) pe (star1 hn), fun O0 H0 env σ H ds env' R s he q => ?_⟩
  unfold evI at he
  obtain ⟨⟨d1, e1⟩, h1, he⟩ := bindS he
  obtain ⟨l, h2, he⟩ := Option.map_eq_some_iff.mp he
  obtain ⟨rfl, rfl⟩ := Prod.mk.inj he
  refine ee O0 H0 env σ H d1 _ _ s h1 (fun z => absurd z hm) fun v H1 s1 k1 r1 => ?_
  obtain ⟨a, xs, rfl, hlen, hx⟩ := mrep_seq hm r1 h2
  rcases hx with ⟨_, e0, hx⟩ | ⟨rfl, e0, hx⟩
  · exact ⟨a, xs, rfl, .inl ⟨e0, q _ H1 s1 k1 (it_rev hlen (by rw [← hlen]; exact walk_rev) hx)⟩⟩
  · exact ⟨a, xs, rfl, .inr ⟨e0, q _ H1 s1 k1 (it_rev hlen (by rw [← hlen]; exact walk_revT) hx)⟩⟩
theorem i_revr (c : Ctx k S X) {m : Md} {e : E} {tg a : Expr} {x y : Str} {p p2 pos pos2 : Pos} (hx : x = ("reversed" : Str)) (hg : isGl S.sc x = true) (hb : x ∈ S.bl) (hy : y = ("range" : Str)) (hg2 : isGl S.sc y = true) (hb2 : y ∈ S.bl) (hn : noStar a = true) (h : SndE k S X .vw e a) : SndI k S X m (.revr e) tg (.Call (.Name x p) [.Call (.Name y p2) [a] [] pos2] [] pos) := by
  obtain ⟨t, pe, ee⟩ := h
  subst hx hy
  refine ⟨_, pi_revR (gl_of c hg) (c.bl _ hb) (prg_1 (gl_of c hg2) (c.bl _ hb2) pe (star1 hn)) (star1 rfl), fun O0 H0 env σ H ds env' R s he q => ?_⟩
  unfold evI at he
  obtain ⟨⟨d1, e1⟩, h1, he⟩ := bindS he
  have hi : ∃ n, d1 = .int n ∧ okR n = true ∧ ((rng 0 n.toNat).reverse, e1) = (ds, env') := by
    cases d1 <;> first | cases he | skip
    rename_i n
    have he : (if okR n then some ((rng 0 n.toNat).reverse, e1) else none) = some (ds, env') := he
    split at he
    · cases he; exact ⟨_, rfl, by assumption, rfl⟩
    · cases he
  obtain ⟨n, rfl, h2, h3⟩ := hi
  obtain ⟨rfl, rfl⟩ := Prod.mk.inj h3
  refine ee O0 H0 env σ H _ e1 _ s h1 (fun z => by cases z) fun v H1 s1 k1 r1 => ?_
  have ev : v = .int n := RepV.int (show RepV X.K S.kd O0 σ H1 (.int n) v from r1)
  subst ev
  obtain ⟨h3, h4⟩ := okR_ok h2
  have hl : (n - 0).toNat = n.toNat := by omega
  refine ⟨n, rfl, by decide, by decide, h3, h4, q _ H1 s1 k1 (it_fn (f := fun i => .int (0 + (((n - 0).toNat : Nat) : Int) - 1 + (i : Nat) * (-1))) (by rw [List.length_reverse, rng_len, ← hl]; exact walk_rangeC) fun i hi => ?_)⟩
  rw [List.length_reverse, rng_len] at hi
  refine ⟨_, ?_, rfl⟩
  rw [List.getElem?_reverse (by rw [rng_len]; exact hi), rng_len, rng_get (by omega), hl]
  have : (0 : Int) + ((n.toNat - 1 - i : Nat) : Int) = 0 + ((n.toNat : Nat) : Int) - 1 + (i : Nat) * (-1) := by omega
  rw [this]
end
end LS
/-! LsN: comprehensions. -/
namespace LS
open PySem PySem.Spec PyProof.Rows L2

section
variable {k : Nat} {S : Sta} {X : Cx} {K : PySem.W.Frag} {kd : List Kind} {O0 O1 : AS} {H0 H H1 H' Hs : Hp} {env env' : EnD} {σ : L2.St}
theorem wipeE_len : ∀ {own : List Nat}, (wipeE env own).length = env.length
  | [] => rfl
  | _ :: r => by unfold wipeE; rw [List.length_set, wipeE_len]
theorem wipeE_ne {i : Nat} : ∀ {own : List Nat}, i ∉ own → (wipeE env own)[i]? = env[i]?
  | [], _ => rfl
  | j :: r, h => by
    unfold wipeE
    rw [List.getElem?_set_ne (fun e => h (by rw [e]; exact List.mem_cons_self)), wipeE_ne fun z => h (List.mem_cons_of_mem _ z)]
theorem wipeE_in {i : Nat} : ∀ {own : List Nat}, i ∈ own → ∀ d, (wipeE env own)[i]? ≠ some (some d)
  | j :: r, h, d => by
    unfold wipeE
    intro z
    by_cases e : j = i
    · subst e
      by_cases hl : j < (wipeE env r).length
      · rw [List.getElem?_set_self hl] at z; cases z
      · rw [List.getElem?_eq_none (by rw [List.length_set]; omega)] at z; cases z
    · rw [List.getElem?_set_ne e] at z
      exact wipeE_in ((List.mem_cons.mp h).resolve_left fun q => e q.symm) d z
theorem wipe_ne {i : Nat} : ∀ {own : List Nat}, i ∉ own → (wipe σ own)[i]? = σ[i]?
  | [], _ => rfl
  | j :: r, h => by
    unfold wipe
    rw [List.getElem?_set_ne (fun e => h (by rw [e]; exact List.mem_cons_self)), wipe_ne fun z => h (List.mem_cons_of_mem _ z)]
theorem wipe_in {i : Nat} : ∀ {own : List Nat}, i ∈ own → i < σ.length → (wipe σ own)[i]? = some none
  | j :: r, h, hl => by
    unfold wipe
    by_cases e : j = i
    · subst e
      exact List.getElem?_set_self (by rw [wipe_length]; exact hl)
    · rw [List.getElem?_set_ne e]
      exact wipe_in ((List.mem_cons.mp h).resolve_left fun q => e q.symm) hl
theorem wipe_eq {σ2 : L2.St} {own : List Nat} (hl : σ2.length = σ.length) (h : ∀ i, i ∉ own → σ2[i]? = σ[i]?) : wipe σ2 own = wipe σ own := by
  refine List.ext_getElem? fun i => ?_
  by_cases hi : i ∈ own
  · by_cases hlt : i < σ.length
    · rw [wipe_in hi hlt, wipe_in hi (by rw [hl]; exact hlt)]
    · rw [List.getElem?_eq_none (by rw [wipe_length, hl]; omega), List.getElem?_eq_none (by rw [wipe_length]; omega)]
  · rw [wipe_ne hi, wipe_ne hi, h i hi]
theorem backE_len {old : EnD} : ∀ {own : List Nat}, (backE env old own).length = env.length
  | [] => rfl
  | _ :: r => by unfold backE; rw [List.length_set, backE_len]
theorem backE_ne {old : EnD} {i : Nat} : ∀ {own : List Nat}, i ∉ own → (backE env old own)[i]? = env[i]?
  | [], _ => rfl
  | j :: r, h => by
    unfold backE
    rw [List.getElem?_set_ne (fun e => h (by rw [e]; exact List.mem_cons_self)), backE_ne fun z => h (List.mem_cons_of_mem _ z)]
theorem backE_in {old : EnD} {i : Nat} {d : D} : ∀ {own : List Nat}, i ∈ own → (backE env old own)[i]? = some (some d) → old[i]? = some (some d)
  | j :: r, h, z => by
    unfold backE at z
    by_cases e : j = i
    · subst e
      by_cases hl : j < (backE env old r).length
      · rw [List.getElem?_set_self hl] at z
        have z := Option.some.inj z
        cases q : old[j]? with
        | none => rw [q] at z; cases z
        | some x => rw [q] at z; rw [← z]; rfl
      · rw [List.getElem?_eq_none (by rw [List.length_set]; omega)] at z; cases z
    · rw [List.getElem?_set_ne e] at z
      exact backE_in ((List.mem_cons.mp h).resolve_left fun q => e q.symm) z
theorem SR.wiped (s : SR K kd O0 H0 env σ H) : ∀ {own : List Nat}, (∀ i ∈ own, kd[i]? = some .val) → SR K kd O0 H0 (wipeE env own) (wipe σ own) H
  | [], _ => s
  | i :: r, h => by
    unfold wipeE wipe
    exact (SR.wiped s fun j hj => h j (List.mem_cons_of_mem _ hj)).setv (h i List.mem_cons_self) fun d z => by cases z
theorem off_wipe {own : List Nat} (h : ∀ i ∈ own, kd[i]? = some .val) : Off kd own σ (wipe σ own) := ⟨wipe_length σ own, fun _ hi => wipe_ne hi, h⟩

/-- one more owned list -/
def more (O : AS) (D : Addr) : AS := fun b => O b ∨ b = D
theorem own_more {D : Addr} {b : Addr} : Own kd (more O0 D) σ b ↔ Own kd O0 σ b ∨ b = D := by
  unfold Own more
  constructor
  · rintro ((h | h) | h)
    · exact .inl (.inl h)
    · exact .inr h
    · exact .inl (.inr h)
  · rintro ((h | h) | h)
    · exact .inl (.inl h)
    · exact .inr h
    · exact .inl (.inr h)
theorem SR.h0 (s : SR K kd O0 H0 env σ H) {D : Addr} (n : H D = none) : H0 D = none := by
  cases e : H0 D with
  | none => rfl
  | some o =>
    by_cases hi : Io kd σ D
    · obtain ⟨xs, z⟩ := s.olst D (io_own hi)
      rw [n] at z
      cases z
    · have := s.fr D o e hi
      rw [n] at this
      cases this
theorem SR.notAt (s : SR K kd O0 H0 env σ H) {D : Addr} (n : H D = none) : ∀ i, isOwn kd i → ¬ At σ i D := fun i hi ha => by
  obtain ⟨xs, z⟩ := s.olst D (.inr ⟨i, hi, ha⟩)
  rw [n] at z
  cases z
theorem SR.enter (s : SR K kd O0 H0 env σ H) {D : Addr} {acc : List V} (n : H D = none) : SR K kd (more O0 D) (upd H0 D (.lst acc)) env σ (upd H D (.lst acc)) := by
  have n0 := s.h0 n
  have na := s.notAt n
  have st : Stays (Own kd O0 σ) (Own kd (more O0 D) σ) H (upd H D (.lst acc)) := fun b o h hn => ⟨upd_keeps n b o h, fun z => (own_more.mp z).elim hn fun e => by subst e; rw [n] at h; cases h⟩
  refine ⟨s.le, s.ls, fun b o h hn => ?_, fun b hb => ?_, fun i d h1 h2 => ?_, fun i d h1 h2 => ?_, fun i d h1 h2 => ?_, s.dj, s.ow⟩
  · by_cases e : b = D
    · subst e; rw [upd_same] at h ⊢; exact h
    · rw [upd_ne e] at h ⊢; exact s.fr b o h hn
  · by_cases e : b = D
    · subst e; exact ⟨acc, upd_same⟩
    · obtain ⟨xs, z⟩ := s.o0 b (hb.resolve_right e)
      exact ⟨xs, by rw [upd_ne e]; exact z⟩
  · obtain ⟨v, e, r⟩ := s.vl i d h1 h2
    exact ⟨v, e, r.mono st⟩
  · obtain ⟨a, l, xs, e, h3, h4, h5, r⟩ := s.lc i d h1 h2
    have ha : a ≠ D := fun z => by subst z; rw [n] at h4; cases h4
    exact ⟨a, l, xs, e, h3, by rw [upd_ne ha]; exact h4, by rw [upd_ne ha]; exact h5, r.mono st⟩
  · obtain ⟨a, ns, e, h3, h4⟩ := s.io i d h1 h2
    have ha : a ≠ D := fun z => by subst z; rw [n] at h4; cases h4
    exact ⟨a, ns, e, h3, by rw [upd_ne ha]; exact h4⟩
theorem SR.bump {D : Addr} {acc acc' : List V} (s : SR K kd O1 (upd H0 D (.lst acc)) env σ H) (hO : O1 D) (hn : ∀ i, isOwn kd i → ¬ At σ i D) : SR K kd O1 (upd H0 D (.lst acc')) env σ (upd H D (.lst acc')) := by
  have st : Stays (Own kd O1 σ) (Own kd O1 σ) H (upd H D (.lst acc')) := fun b o h hb => ⟨by rw [upd_ne fun e => hb (by subst e; exact .inl hO)]; exact h, hb⟩
  refine ⟨s.le, s.ls, fun b o h hb => ?_, fun b hb => ?_, fun i d h1 h2 => ?_, fun i d h1 h2 => ?_, fun i d h1 h2 => ?_, s.dj, s.ow⟩
  · by_cases e : b = D
    · subst e; rw [upd_same] at h ⊢; exact h
    · rw [upd_ne e] at h ⊢; exact s.fr b o (by rw [upd_ne e]; exact h) hb
  · by_cases e : b = D
    · subst e; exact ⟨acc', upd_same⟩
    · obtain ⟨xs, z⟩ := s.o0 b hb
      rw [upd_ne e] at z
      exact ⟨xs, by rw [upd_ne e]; exact z⟩
  · obtain ⟨v, e, r⟩ := s.vl i d h1 h2
    exact ⟨v, e, r.mono st⟩
  · obtain ⟨a, l, xs, e, h3, h4, h5, r⟩ := s.lc i d h1 h2
    have ha : a ≠ D := fun z => by subst z; exact hn i (.inl h1) h3
    rw [upd_ne ha] at h5
    exact ⟨a, l, xs, e, h3, by rw [upd_ne ha]; exact h4, by rw [upd_ne ha]; exact h5, r.mono st⟩
  · obtain ⟨a, ns, e, h3, h4⟩ := s.io i d h1 h2
    have ha : a ≠ D := fun z => by subst z; exact hn i (.inr h1) h3
    exact ⟨a, ns, e, h3, by rw [upd_ne ha]; exact h4⟩
theorem SR.leave {D : Addr} {acc : List V} {own : List Nat} {e : EnD} (hv : ∀ i ∈ own, kd[i]? = some .val) (old : SR K kd O0 H0 env σ H1) (n : H1 D = none) (kp : Kp kd σ H1 H)
    (s : SR K kd (more O0 D) (upd H0 D (.lst acc)) (wipeE e own) (wipe σ own) H) : SR K kd O0 H0 (backE e env own) σ H := by
  have of := off_wipe (σ := σ) hv
  have n0 := old.h0 n
  have st : Stays (Own kd (more O0 D) (wipe σ own)) (Own kd O0 σ) H H := fun b o h hb => ⟨h, fun z => hb (by rw [of.own]; exact own_more.mpr (.inl z))⟩
  have nin : ∀ i, isOwn kd i → i ∉ own := fun i hi z => by
    have := hv i z
    rcases hi with q | q <;> (rw [this] at q; cases q)
  refine ⟨by rw [backE_len, ← s.le, wipeE_len], old.ls, fun b o h hb => ?_, old.o0, fun i d h1 h2 => ?_, fun i d h1 h2 => ?_, fun i d h1 h2 => ?_, old.dj, fun i v h1 h2 => ?_⟩
  · have hbD : b ≠ D := fun z => by subst z; rw [n0] at h; cases h
    exact s.fr b o (by rw [upd_ne hbD]; exact h) (by rw [of.io]; exact hb)
  · by_cases hi : i ∈ own
    · obtain ⟨v, e2, r⟩ := old.vl i d h1 (backE_in hi h2)
      exact ⟨v, e2, r.mono kp.stays⟩
    · rw [backE_ne hi] at h2
      obtain ⟨v, e2, r⟩ := s.vl i d h1 (by rw [wipeE_ne hi]; exact h2)
      rw [wipe_ne hi] at e2
      exact ⟨v, e2, r.mono st⟩
  · have hi := nin i (.inl h1)
    rw [backE_ne hi] at h2
    obtain ⟨a, l, xs, e2, h3, h4, h5, r⟩ := s.lc i d h1 (by rw [wipeE_ne hi]; exact h2)
    have ha : a ≠ D := fun z => by subst z; rw [upd_same] at h5; cases h5
    rw [upd_ne ha] at h5
    exact ⟨a, l, xs, e2, (of.at (.inl h1)).mp h3, h4, h5, r.mono st⟩
  · have hi := nin i (.inr h1)
    rw [backE_ne hi] at h2
    obtain ⟨a, ns, e2, h3, h4⟩ := s.io i d h1 (by rw [wipeE_ne hi]; exact h2)
    exact ⟨a, ns, e2, (of.at (.inr h1)).mp h3, h4⟩
  · have hi := nin i h1
    obtain ⟨d, hd⟩ := s.ow i v h1 (by rw [wipe_ne hi]; exact h2)
    rw [wipeE_ne hi] at hd
    exact ⟨d, by rw [backE_ne hi]; exact hd⟩

/-! ### the block's context -/
theorem ctx_blk (c : Ctx k S X) {scope : Scope} {own : List (Str × Nat)} (hb : blkC S.N S.sc scope own = true) (s : Shared) (H : Hp) (C : Addr) (cl : List (Str × Addr)) (fp : List Addr) : Ctx k (blkS S scope) (X.blk s H scope (compEnvC scope cl C X.env) fp) := by
  refine ⟨?_, (blkOk_by hb).kind, fun _ h => h, c.N, c.nd, c.nl, c.cm, c.gd, c.rm, rfl, c.gl, c.bl, c.gc, c.fn⟩
  show relS scope X.env.scope = relS scope S.sc
  rw [c.sc]
/-- one transformer for all blocks -/
theorem uni_e {ι : Type} {f : ι → Cx} {e : Expr} {P : TE → Prop} (hP : ∀ (t : ι → TE), (∀ i, P (t i)) → P fun σ H Q => ∀ i, t i σ H Q) (h : ∀ i, ∃ t, PE (f i) e t ∧ P t) : ∃ t, (∀ i, PE (f i) e t) ∧ P t :=
  ⟨fun σ H Q => ∀ i, Classical.choose (h i) σ H Q, fun i => ⟨fun pins s σ H Q I q => (Classical.choose_spec (h i)).1.run pins s σ H Q I (q i)⟩, hP _ fun i => (Classical.choose_spec (h i)).2⟩
theorem uni_t {ι : Type} {f : ι → Cx} {e : Expr} {P : TT → Prop} (hP : ∀ (t : ι → TT), (∀ i, P (t i)) → P fun σ H Q => ∀ i, t i σ H Q) (h : ∀ i, ∃ t, PT (f i) e t ∧ P t) : ∃ t, (∀ i, PT (f i) e t) ∧ P t :=
  ⟨fun σ H Q => ∀ i, Classical.choose (h i) σ H Q, fun i => ⟨fun pins s σ H Q I q => (Classical.choose_spec (h i)).1.run pins s σ H Q I (q i)⟩, hP _ fun i => (Classical.choose_spec (h i)).2⟩
theorem uni_g {ι : Type} {f : ι → Cx} {e : Expr} {P : TG → Prop} (hP : ∀ (t : ι → TG), (∀ i, P (t i)) → P fun v σ H Q => ∀ i, t i v σ H Q) (h : ∀ i, ∃ t, PG (f i) e t ∧ P t) : ∃ t, (∀ i, PG (f i) e t) ∧ P t :=
  ⟨fun v σ H Q => ∀ i, Classical.choose (h i) v σ H Q, fun i => ⟨fun pins s σ H v u Q I r q => (Classical.choose_spec (h i)).1.run pins s σ H v u Q I r (q i)⟩, hP _ fun i => (Classical.choose_spec (h i)).2⟩
structure Bk where
  s : Shared
  H : Hp
  C : Addr
  cl : List (Str × Addr)
  fp : List Addr
def Bk.cx (b : Bk) (X : Cx) (scope : Scope) : Cx := X.blk b.s b.H scope (compEnvC scope b.cl b.C X.env) b.fp

theorem lcL_if {elt : EnD → Option (D × EnD)} {t : T} {own : List Nat} : ∀ {l : List D} {env : EnD}, lcL elt t own l env = lcifL elt (fun e => some (true, e)) t own l env
  | [], _ => rfl
  | d :: r, env => by
    unfold lcL lcifL
    simp only [Option.bind_some, if_true, lcL_if]
/-- a clause's tests -/
def TsOk (k : Nat) (S : Sta) (K : PySem.W.Frag) (cF : EnD → Option (Bool × EnD)) (tt : TT) : Prop := ∀ (O0 : AS) (H0 : Hp) (env : EnD) (σ : L2.St) (H : Hp) (b : Bool) (env' : EnD) (Q : Bool → Hp → Prop), SR K S.kd O0 H0 env σ H → cF env = some (b, env') →
  (∀ H', SR K S.kd O0 H0 env' σ H' → Kp S.kd σ H H' → Q b H') → tt σ H Q
/-- an expression that is stored while its block runs -/
def SndC (k : Nat) (S : Sta) (X : Cx) (m : Md) (e : E) (a : Expr) : Prop := ∃ t, PE X a t ∧ EOk k S X m e t ∧ ∀ (i : Nat) (y : Str) (py spos : Pos), X.N[i]? = some y → X.env.scope.names.lookup y = some .local → swapsWith a (some (.Name y py)) spos.line X.env = pure true → PS X (.Assign [.Name y py] a spos) (tAsg t (gName i))
theorem SndC.e {k : Nat} {S : Sta} {X : Cx} {m : Md} {e : E} {a : Expr} (h : SndC k S X m e a) : SndE k S X m e a := let ⟨t, p, q, _⟩ := h; ⟨t, p, q⟩
theorem snd_lcG (c : Ctx k S X) {m : Md} {el : E} {t : T} {it : I} {own : List Nat} {elt' tg iter : Expr} {ifs : List Expr} {scope : Scope} {pos : Pos} {cF : EnD → Option (Bool × EnD)} {g : TG} {te : TE} {tt : TT} {e : E}
    (hi : SndI k S X .vw it tg iter) (hb : blkC S.N S.sc scope (ownNames S own) = true) (hv : ∀ i ∈ own, S.kd[i]? = some .val) (hsl : ∀ i ∈ T.slots t, i ∈ own) (hs : ∀ x, foldedSetIterable iter X.env x = pure x)
    (pg : ∀ b : Bk, PG (b.cx X scope) tg g) (go : ∀ X', X'.K = X.K → GOk S X' t g) (pt : ∀ b : Bk, PTs (b.cx X scope) ifs tt) (to : TsOk k S X.K cF tt)
    (pe : ∀ b : Bk, PE (b.cx X scope) elt' te) (eo : ∀ X', X'.K = X.K → EOk k S X' .str el te)
    (he : ∀ env, ev (run S.P k) S.P.gl e env = (evI (run S.P k) S.P.gl it env).bind fun p => (fits p.1).bind fun l => (lcifL (fun e => ev (run S.P k) S.P.gl el e) cF t own l p.2).map fun q => (.lst q.1, backE q.2 p.2 own)) :
    SndC k S X m e (.ListComp elt' [⟨tg, iter, ifs, 0⟩] scope pos) := by
  obtain ⟨wi, pi, io⟩ := hi
  have hsn : (ownNames S own).map (·.2) = own := by
    unfold ownNames
    rw [List.map_map]
    exact (List.map_congr_left (g := id) fun _ _ => rfl).trans (List.map_id _)
  refine ⟨_, pe_lc (own := ownNames S own) c.cm (by rw [c.N]; exact c.nd) pi (blkOk_by (by rw [c.N, c.sc]; exact hb)) (fun s H C cl fp => pg ⟨s, H, C, cl, fp⟩) (fun s H C cl fp => pt ⟨s, H, C, cl, fp⟩) (fun s H C cl fp => pe ⟨s, H, C, cl, fp⟩) hs, fun O0 H0 env σ H d env' Q s h hfr q => ?_, fun i y py spos h1 h2 h3 => ps_setLc (own := ownNames S own) c.cm (by rw [c.N]; exact c.nd) h1 h2 h3 pi (blkOk_by (by rw [c.N, c.sc]; exact hb)) (fun s H C cl fp => pg ⟨s, H, C, cl, fp⟩) (fun s H C cl fp => pt ⟨s, H, C, cl, fp⟩) (fun s H C cl fp => pe ⟨s, H, C, cl, fp⟩) hs⟩
  rw [he] at h
  obtain ⟨⟨ds, e1⟩, h1, h⟩ := bindS h
  obtain ⟨l, h2, h⟩ := bindS h
  obtain ⟨⟨out, e9⟩, h3, h4⟩ := Option.map_eq_some_iff.mp h
  obtain ⟨rfl, rfl⟩ := Prod.mk.inj h4
  have hfit : ds.length ≤ 1000000 ∧ l = ds := by
    unfold fits at h2
    split at h2
    · exact ⟨by assumption, (Option.some.inj h2).symm⟩
    · cases h2
  obtain ⟨hz, rfl⟩ := hfit
  unfold tLc
  rw [hsn]
  refine io O0 H0 env σ H l e1 _ s h1 fun J H1 s1 k1 itk Da hD => ?_
  obtain ⟨G, Y, w, hG, hY⟩ := itk
  have of := off_wipe (σ := σ) hv
  have na := s1.notAt hD
  have own_eq : Own S.kd (more O0 Da) (wipe σ own) = Own S.kd (more O0 Da) σ := of.own
  have hDw : Own S.kd (more O0 Da) (wipe σ own) Da := by rw [own_eq]; exact own_more.mpr (.inr rfl)
  have naw : ∀ i, isOwn S.kd i → ¬ At (wipe σ own) i Da := fun i hi ha => na i hi ((of.at hi).mp ha)
  -- what stands ahead of turn i
  let Pv : Nat → Hp → Prop := fun i H2 => ∃ (e : EnD) (acc : List V) (done rest : List LS.D), SR X.K S.kd (more O0 Da) (upd H0 Da (.lst acc)) (wipeE e own) (wipe σ own) H2 ∧ Kp S.kd σ H1 H2 ∧ H2 Da = some (.lst acc) ∧ acc.length ≤ i ∧ Reps X.K (Own S.kd (more O0 Da) (wipe σ own)) H2 done acc ∧
    lcifL (fun e => ev (run S.P k) S.P.gl el e) cF t own (l.drop i) e = some (rest, e9) ∧ out = done ++ rest
  have src : ∀ i H2, Pv i H2 → Src S.kd O0 σ .vw H1 (Own S.kd (more O0 Da) (wipe σ own)) H2 := fun i H2 ⟨e, acc, done, rest, s2, k2, _⟩ => ⟨s2.olst, fun b o hb hn => ⟨k2 b o hb fun z => hn (io_own z), fun z => by
    rw [own_eq] at z
    exact (own_more.mp z).elim hn fun e => by subst e; rw [hD] at hb; cases hb⟩, k2⟩
  refine lc_it w Pv ?_ (fun i H2 _ p => hG _ _ (src i H2 p)) ?_ ?_
  · refine ⟨e1, [], [], out, ?_, fun b o hb _ => upd_keeps hD b o hb, upd_same, Nat.le_refl _, .nil, h3, rfl⟩
    exact (s1.enter hD).wiped hv
  · intro i x H2 H3 hlt p hy
    obtain ⟨keep, d, hd, rd⟩ := hY _ H2 i x H3 (src i H2 p) hy hlt
    obtain ⟨e, acc, done, rest, s2, k2, hD2, hla, rs, hl, hout⟩ := p
    have hdrop : l.drop i = d :: l.drop (i + 1) := by
      obtain ⟨hlt', hd'⟩ := List.getElem?_eq_some_iff.mp hd
      rw [← hd', List.drop_eq_getElem_cons hlt']
    rw [hdrop] at hl
    unfold lcifL at hl
    obtain ⟨e2, a1, hl⟩ := bindS hl
    obtain ⟨⟨b, e3⟩, a2, hl⟩ := bindS hl
    refine go X rfl _ _ _ _ H3 d x e2 _ (s2.kept keep) a1 rd fun σ2 s3 of3 => ?_
    have hw2 : wipe σ2 own = wipe σ own := by
      have h9 : wipe σ2 own = wipe (wipe σ own) own := wipe_eq of3.1 fun j hj => of3.2.1 j fun z => hj (hsl j z)
      rw [h9]
      exact wipe_eq (wipe_length σ own) fun j hj => wipe_ne hj
    have own2 : Own S.kd (more O0 Da) σ2 = Own S.kd (more O0 Da) (wipe σ own) := of3.own
    have io2 : Io S.kd σ2 = Io S.kd (wipe σ own) := of3.io
    refine ⟨hw2, to _ _ _ _ H3 b e3 _ s3 a2 fun H4 s4 k4 => ?_⟩
    have nio : ¬ Io S.kd σ2 Da := fun z => by
      rw [io2] at z
      obtain ⟨j, hj, ha⟩ := z
      exact naw j (.inr hj) ha
    have hD4 : H4 Da = some (.lst acc) := k4 Da _ (keep Da _ hD2) nio
    have k14 : Kp S.kd σ H1 H4 := fun b o hb hn => k4 b o (keep b o (k2 b o hb hn)) (by rw [io2, of.io]; exact hn)
    have st4 : Stays (Own S.kd (more O0 Da) (wipe σ own)) (Own S.kd (more O0 Da) (wipe σ own)) H2 H4 := fun b o hb hn => ⟨k4 b o (keep b o hb) (fun z => hn (by rw [io2] at z; exact io_own z)), hn⟩
    cases b with
    | false =>
      simp only [Bool.false_eq_true, if_false] at hl ⊢
      refine ⟨e3, acc, done, rest, ?_, k14, hD4, by omega, rs.mono st4, hl, hout⟩
      have := s4.wiped hv
      rw [hw2] at this
      exact this
    | true =>
      simp only [if_true] at hl ⊢
      obtain ⟨⟨y, e4⟩, a3, hl⟩ := bindS hl
      obtain ⟨⟨r2, e5⟩, a4, a5⟩ := Option.map_eq_some_iff.mp hl
      obtain ⟨rfl, rfl⟩ := Prod.mk.inj a5
      refine eo X rfl _ _ _ _ H4 y e4 _ s4 a3 (fun z => by cases z) fun v H5 s5 k5 rv => ?_
      have hD5 : H5 Da = some (.lst acc) := k5 Da _ hD4 nio
      have k15 : Kp S.kd σ H1 H5 := fun b o hb hn => k5 b o (k14 b o hb hn) (by rw [io2, of.io]; exact hn)
      have st5 : Stays (Own S.kd (more O0 Da) (wipe σ own)) (Own S.kd (more O0 Da) (wipe σ own)) H4 H5 := fun b o hb hn => ⟨k5 b o hb (fun z => hn (by rw [io2] at z; exact io_own z)), hn⟩
      have st6 : Stays (Own S.kd (more O0 Da) (wipe σ own)) (Own S.kd (more O0 Da) (wipe σ own)) H5 (upd H5 Da (.lst (acc ++ [v]))) := fun b o hb hn => ⟨by rw [upd_ne fun z => hn (by subst z; exact hDw)]; exact hb, hn⟩
      have rv2 : Rep X.K (Own S.kd (more O0 Da) (wipe σ own)) H5 y v := by
        rw [← own2]
        exact rv
      refine ⟨acc, hD5, by unfold sizeLine; omega, e4, acc ++ [v], done ++ [y], r2, ?_, ?_, upd_same, by rw [List.length_append]; simp; omega, ?_, a4, by rw [hout, List.append_assoc]; rfl⟩
      · have := s5.wiped hv
        rw [hw2] at this
        exact this.bump (.inr rfl) naw
      · exact fun b o hb hn => by
          rw [upd_ne fun z => by subst z; rw [hD] at hb; cases hb]
          exact k15 b o hb hn
      · exact ((rs.mono st4).mono st5).mono st6 |>.append (.one (rv2.mono st6))
  · rintro H9 ⟨e, acc, done, rest, s2, k2, hD2, hla, rs, hl, hout⟩
    rw [List.drop_eq_nil_of_le (Nat.le_refl _)] at hl
    unfold lcifL at hl
    obtain ⟨rfl, rfl⟩ := Prod.mk.inj (Option.some.inj hl)
    rw [List.append_nil] at hout
    subst hout
    refine q _ H9 (SR.leave hv s1 hD k2 s2) (k1.trans k2) (MRep.of_f s ⟨Da, _, acc, rfl, rfl, s.free s1 k1 hD, hD2, ?_⟩)
    refine rs.mono fun b o hb hn => ⟨hb, fun z => hn ?_⟩
    rw [own_eq]
    exact own_more.mpr z
end
end LS
/-! LsO: a call of a def on a new list, made by another. -/
namespace LS
open PySem PySem.Spec PyProof.Rows L2

section
variable {k : Nat} {S : Sta} {X : Cx} {K : PySem.W.Frag} {kd : List Kind} {O0 O1 : AS} {H0 H H1 H' Hs : Hp} {env env' : EnD} {σ : L2.St}
theorem noBor_ios : ∀ {as : AL}, noBor as = true → iosA as = [] ∧ borsA as = []
  | .nil, _ => ⟨rfl, rfl⟩
  | .val _ r, h => by unfold noBor at h; unfold iosA borsA; exact noBor_ios h
  | .bor _ _, h => by unfold noBor at h; cases h
  | .io _ _, h => by unfold noBor at h; cases h
theorem lstI_of {d : D} {l : List D} (h : lstI d = some l) : d = .lst l ∧ ∃ ns, intsD l = some ns := by
  cases d with
  | lst m =>
    have h : (intsD m).map (fun _ => m) = some l := h
    obtain ⟨ns, h1, h2⟩ := Option.map_eq_some_iff.mp h
    subst h2
    exact ⟨rfl, ns, h1⟩
  | _ => cases h
theorem snd_callT (c : Ctx k S X) {m : Md} {f g : Nat} {F G : Fn} {as : AL} {x y : Str} {args : List Expr} {p p2 pos pos2 : Pos} (hF : S.P.fn f = some F) (hx : F.name = x) (hg : isGl S.sc x = true) (hdb : (x == ("__debug__" : Str)) = false) (hpk : F.pk = [.io])
    (hG : S.P.fn g = some G) (hy : G.name = y) (hg2 : isGl S.sc y = true) (hdb2 : (y == ("__debug__" : Str)) = false) (hfr : G.fresh = true) (hc : chkA S G.pk as args = true) (hnb : noBor as = true) (hne : args ≠ []) (hs : args.all noStar = true) (hm : m ≠ .fr ∨ F.fresh = true)
    (h : ∃ t, PA X args t ∧ AOk k S X as t) : SndE k S X m (.callT f g as) (.Call (.Name x p) [.Call (.Name y p2) args [] pos2] [] pos) := by
  obtain ⟨t, pa, ee⟩ := h
  obtain ⟨fa, fd, h1, h2, hln, h3, _, h4⟩ := c.fn f F hF
  obtain ⟨ga, gd, i1, i2, iln, i3, _, i4⟩ := c.fn g G hG
  subst hx hy
  cases args with
  | nil => exact absurd rfl hne
  | cons a as' =>
    refine ⟨_, pe_g h4 c.rm c.gd (gl_of c hg) h1 h2 h3 hdb (pa_cons (pe_g i4 c.rm c.gd (gl_of c hg2) i1 i2 i3 hdb2 pa hs) pa_nil (star1 rfl)) rfl, fun O0 H0 env σ H d env' Q s he _ q => ?_⟩
    unfold ev at he
    obtain ⟨⟨ds1, e1⟩, g1, he⟩ := bindS he
    obtain ⟨ds, g2, he⟩ := bindS he
    obtain ⟨⟨r, os⟩, g3, he⟩ := bindS he
    obtain ⟨l, g4, he⟩ := bindS he
    obtain ⟨⟨r2, os2⟩, g5, g6⟩ := Option.map_eq_some_iff.mp he
    obtain ⟨rfl, rfl⟩ := Prod.mk.inj g6
    obtain ⟨e7, ns, g7⟩ := lstI_of g4
    have e7 : r = .lst l := e7
    obtain ⟨nio, nbo⟩ := noBor_ios hnb
    refine ee O0 H0 env σ H ds1 e1 _ s g1 fun vs H1 s1 k1 r1 => ?_
    obtain ⟨a1, a2, a3, a4⟩ := args_ok s1 (fun _ => False) hc r1 g2 fun i hi => by rw [nbo] at hi; cases hi
    have ho : ∀ b, OL S.kd O0 σ (fun _ => False) b → ∃ xs, H1 b = some (.lst xs) := fun b hb => s1.olst b hb.1
    have hpk2 : G.pk.length = G.ps.length := by
      unfold Fn.pk
      rw [List.length_take]
      omega
    have hio : ∀ b, ¬ IoV G.pk vs b := fun b hb => by
      obtain ⟨i, hi, _⟩ := a3 b hb
      rw [nio] at hi
      cases hi
    refine ⟨OL S.kd O0 σ (fun _ => False), ds, r, os, by rw [a1, hpk2], a2, a4, fun b hb => absurd hb (hio b), ho, g3, fun v H2 fr _ _ rfr => ?_⟩
    obtain ⟨b, l', xs, e8, rfl, nb, hb, rl⟩ := rfr hfr
    rw [e7] at e8
    cases e8
    obtain ⟨hl, hxs⟩ := ints_of g7 rl
    have keep : ∀ c o, H1 c = some o → H2 c = some o := fun c o hc => fr c o hc (hio c)
    have s2 : SR X.K S.kd O0 H0 e1 σ H2 := s1.kept keep
    have hnb2 : ∀ c o, H1 c = some o → c ≠ b := fun c o hc z => by subst z; rw [nb] at hc; cases hc
    let O2 : AS := fun c => Own S.kd O0 σ c ∨ c = b
    refine ⟨O2, [.lst l], r2, os2, ?_, ?_, ?_, ?_, ?_, g5, fun v H3 fr3 _ rr rf => ?_⟩
    · show 1 = F.ps.length
      have hpl : F.pk.length = F.ps.length := by
        unfold Fn.pk
        rw [List.length_take]
        omega
      rw [hpk] at hpl
      exact hpl
    · rw [hpk]
      exact ⟨b, ns, [], rfl, by rw [hl], by rw [hb, hxs], rfl⟩
    · intro i j a hi hj _ _
      rw [hpk] at hi hj
      cases i with
      | zero => cases j with
        | zero => rfl
        | succ j => simp at hj
      | succ i => simp at hi
    · rintro c ⟨i, hi, hv⟩
      rw [hpk] at hi
      cases i with
      | zero => simp at hv; exact .inr hv.symm
      | succ i => simp at hi
    · rintro c (z | z)
      · exact s2.olst c z
      · subst z; exact ⟨_, hb⟩
    · have keep3 : ∀ c o, H1 c = some o → H3 c = some o := fun c o hc => fr3 c o (keep c o hc) fun ⟨i, hi, hv⟩ => by
        rw [hpk] at hi
        cases i with
        | zero => simp at hv; exact hnb2 c o hc hv.symm
        | succ i => simp at hi
      have k13 : Kp S.kd σ H1 H3 := fun c o hc _ => keep3 c o hc
      have s3 : SR X.K S.kd O0 H0 e1 σ H3 := s1.kept keep3
      have up : Rep X.K (Own S.kd O0 σ) H3 r2 v := rr.mono fun c o hc hn => ⟨hc, fun z => hn (.inl z)⟩
      refine q v H3 s3 (k1.trans k13) ?_
      cases m with
      | str => exact up
      | vw => exact up.v
      | fr =>
        obtain ⟨a, l3, ys, e, e', n, hH3, r3⟩ := rf (hm.resolve_left fun z => z rfl)
        have n1 : H1 a = none := by
          cases z : H1 a with
          | none => rfl
          | some o => rw [keep a o z] at n; cases n
        exact ⟨a, l3, ys, e, e', s.free s1 k1 n1, hH3, r3.mono fun c o hc hn => ⟨hc, fun z => hn (z.elim (fun z => .inl (.inl z)) .inr)⟩⟩
/-! ### keywords -/
theorem kw_each {env : Env} {pos : Pos} : ∀ {kws : List Keyword}, kws.all (fun q => q.arg.isSome) = true → (backToKw pos (keywordEach kws env)).all (·.1.isSome) = true ∧ (backToKw pos (keywordEach kws env)).filterMap (·.1) = kws.filterMap (·.arg) ∧ (backToKw pos (keywordEach kws env)).any (·.1.isNone) = false ∧ (kws.filterMap (·.arg)).length = kws.length
  | [], _ => ⟨rfl, rfl, rfl, rfl⟩
  | ⟨nm, e, kp⟩ :: r, h => by
    rw [List.all_cons, Bool.and_eq_true] at h
    obtain ⟨a, b, c, d⟩ := kw_each (env := env) (pos := pos) h.2
    obtain ⟨x, rfl⟩ := Option.isSome_iff_exists.mp h.1
    refine ⟨?_, ?_, ?_, ?_⟩
    · show (_ && _) = true
      rw [Bool.and_eq_true]
      exact ⟨rfl, a⟩
    · show x :: _ = x :: _
      exact congrArg (x :: ·) b
    · show (_ || _) = false
      rw [Bool.or_eq_false_iff]
      exact ⟨rfl, c⟩
    · show (x :: r.filterMap (·.arg)).length = _
      rw [List.length_cons, List.length_cons, d]
theorem permV {xs : List V} {us : List Value} (r : Vals xs us) : ∀ {ks : List Nat} {ys : List V} {gs : List Value}, permK xs ks = some ys → permK us ks = some gs → Vals ys gs
  | [], _, _, h1, h2 => by
    unfold permK at h1 h2
    cases h1
    cases h2
    exact .nil
  | j :: r', _, _, h1, h2 => by
    unfold permK at h1 h2
    obtain ⟨y, a1, h1⟩ := bindS h1
    obtain ⟨ys, a2, rfl⟩ := Option.map_eq_some_iff.mp h1
    obtain ⟨g, b1, h2⟩ := bindS h2
    obtain ⟨gs, b2, rfl⟩ := Option.map_eq_some_iff.mp h2
    obtain ⟨u, c1, c2⟩ := r.get a1
    rw [b1] at c1
    cases c1
    exact .cons c2 (permV r a2 b2)
theorem permR {O : AS} {l : List D} {xs : List V} (r : Reps K O H l xs) : ∀ {ks : List Nat} {ds : List D}, permK l ks = some ds → ∃ ys, permK xs ks = some ys ∧ Reps K O H ds ys
  | [], _, h => by
    unfold permK at h
    cases h
    exact ⟨[], rfl, .nil⟩
  | j :: r', _, h => by
    unfold permK at h
    obtain ⟨y, a1, h⟩ := bindS h
    obtain ⟨ds, a2, rfl⟩ := Option.map_eq_some_iff.mp h
    obtain ⟨v, b1, b2⟩ := r.get a1
    obtain ⟨ys, b3, b4⟩ := permR r a2
    exact ⟨v :: ys, by unfold permK; rw [b1, Option.bind_some, b3]; rfl, .cons b2 b4⟩
theorem arep_vals {O : AS} : ∀ {pk : List Kind} {ds : List D} {vs : List V}, pk.all (fun kn => decide (kn = .val)) = true → pk.length = ds.length → Reps K O H ds vs → ARep K O H pk ds vs
  | [], [], vs, _, _, h => by unfold Reps at h; unfold ARep; exact h
  | kn :: pk, d :: ds, vs, h1, h2, h => by
    rw [List.all_cons, Bool.and_eq_true] at h1
    obtain rfl := of_decide_eq_true h1.1
    unfold Reps at h
    obtain ⟨v, vr, e, p, q⟩ := h
    exact ⟨v, vr, e, p, arep_vals h1.2 (Nat.succ.inj h2) q⟩
def EL.len : EL → Nat
  | .nil => 0
  | .cons _ r => EL.len r + 1
theorem chkL_len {m : Md} : ∀ {es : EL} {as : List Expr}, chkL S m es as = true → as.length = es.len
  | .nil, [], _ => rfl
  | .nil, _ :: _, h => (Bool.false_ne_true h).elim
  | .cons _ _, [], h => (Bool.false_ne_true h).elim
  | .cons e r, a :: as, h => by
    have h := Bool.and_eq_true_iff.mp h
    rw [List.length_cons, chkL_len h.2]
    rfl
theorem evL_len2 {C : CallT} {G : Nat → Option D} : ∀ {es : EL} {env : EnD} {ds : List D} {env' : EnD}, evL C G es env = some (ds, env') → ds.length = es.len
  | .nil, _, _, _, h => by unfold evL at h; cases h; rfl
  | .cons e r, _, _, _, h => by
    unfold evL at h
    obtain ⟨⟨d1, e1⟩, h1, h⟩ := bindS h
    obtain ⟨⟨q, e5⟩, h5, h6⟩ := Option.map_eq_some_iff.mp h
    cases h6
    rw [List.length_cons, evL_len2 h5]
    rfl
/-- the keywords' values, from the left -/
inductive KwOk (k : Nat) (S : Sta) (X : Cx) : EL → List Keyword → Prop
  | nil : KwOk k S X .nil []
  | cons {e : E} {r : EL} {q : Keyword} {kws : List Keyword} (h : SndE k S X .str e q.value) (t : KwOk k S X r kws) : KwOk k S X (.cons e r) (q :: kws)
theorem kw_ok : ∀ {es : EL} {kws : List Keyword}, KwOk k S X es kws → ∃ t, PK X kws t ∧ LOk k S X .str es t := by
  intro es kws h
  induction h with
  | nil => exact ⟨_, pk_nil, fun O0 H0 env σ H ds env' Q s he q => by
      unfold evL at he
      cases he
      exact q [] H s .refl rfl⟩
  | @cons e r q kws h _ ih =>
    obtain ⟨t1, p1, e1⟩ := h
    obtain ⟨t2, p2, e2⟩ := ih
    obtain ⟨nm, val, kp⟩ := q
    refine ⟨_, pk_cons p1 p2, fun O0 H0 env σ H ds env' Q s he q => ?_⟩
    unfold evL at he
    obtain ⟨⟨d1, en1⟩, g1, he⟩ := bindS he
    obtain ⟨⟨ds1, en2⟩, g2, g3⟩ := Option.map_eq_some_iff.mp he
    cases g3
    refine e1 O0 H0 env σ H d1 en1 _ s g1 (fun z => by cases z) fun v H1 s1 k1 r1 => ?_
    refine e2 O0 H0 en1 σ H1 ds1 _ _ s1 g2 fun vs H2 s2 k2 r2 => ?_
    exact q (v :: vs) H2 s2 (k1.trans k2) ⟨v, vs, rfl, MRep.kp (by decide) k2 r1, r2⟩
/-- f(.., name = value, ..) -/
theorem pe_kw {f : Addr} {fd : FuncData} {ps names : List Str} {sp : Sp} {n : Nat} {ks : List Nat} {x : Str} {p pos : Pos} {args : List Expr} {kws : List Keyword} {t tk : TA} (F : FnG X.prog X.w X.K X.mg X.base k f fd ps sp) (room : Room k X.A) (grd : X.A.guards = some []) (gl : Gl X x) (mgx : X.mg x = some (.ref f)) (kp : PySem.W.keepIn X.K (.ref f) = true)
    (kb : KB X.K fd ps n names ks) (ndb : (x == ("__debug__" : Str)) = false) (ha : args = [] ∨ PA X args t) (he : args = [] → t = tNil) (stars : args.all noStar = true) (hk : PK X kws tk) (named : kws.all (fun q => q.arg.isSome) = true) (hn : kws.filterMap (·.arg) = names) :
    PE X (.Call (.Name x p) args kws pos) (fun σ H Q => t σ H fun vs H1 => tk σ H1 fun zs H2 => vs.length = n ∧ zs.length = names.length ∧ ∃ ys, permK (vs ++ zs) ks = some ys ∧ sp ys H2 Q E0) := by
  refine ⟨fun pins s σ H Q I h => ?_⟩
  refine wpAny_Call_Name_kw (ld_glob I gl mgx ?_ ndb)
  obtain ⟨k1, k2, k3, _⟩ := kw_each (env := X.env) (pos := pos) named
  have fin : ∀ {us : List Value} {vs : List V} {s1 : Shared} {H1 : Hp}, Vals vs us → Inv X pins σ H1 s1 → (tk σ H1 fun zs H2 => vs.length = n ∧ zs.length = names.length ∧ ∃ ys, permK (vs ++ zs) ks = some ys ∧ sp ys H2 Q E0) →
      wpAny (model X.prog X.w) X.A (evalAll ((backToKw pos (keywordEach kws X.env)).map (·.2))) (fun ws s2 => X.K.In s2.heap ∧ wpAny (model X.prog X.w) X.A (call (.ref f) us (((backToKw pos (keywordEach kws X.env)).filterMap (·.1)).zip ws)) (EP X pins σ Q) X.xe s2) X.xe s1 := by
    intro us vs s1 H1 rel I1 q
    refine thn (hk.run pos pins s1 σ H1 _ I1 q) fun ws s2 ⟨zs, H2, I2, rz, l1, l2, ys, hp, q2⟩ => ⟨I2.kIn, ?_⟩
    rw [k2, hn]
    have l3 : us.length = n := by rw [← rel.length, l1]
    have l4 : ws.length = names.length := by rw [← rz.length, l2]
    obtain ⟨gs, b1, b2⟩ := kb s2 us ws I2.kIn l3 l4
    have rg : Vals ys gs := permV (rel.append rz) hp b1
    refine wpAny_call (codeAny_mono (F.go X.A X.stack s2 H2 ⟨us, names.zip ws⟩ gs ys Q E0 room grd I2.env0 b2 rg q2) fun out s3 hq => ?_)
    match out, hq with
    | .error e, hq => exact passL pins σ H2 s2 e s3 I2 hq
    | .ok (.ret u), hq => exact I2.after hq
  cases args with
  | nil =>
    cases he rfl
    exact PySem.W.callWith_KW0 (h₀ := X.base) I.ok.mod.kin kp k1 (fin .nil I h) (by show (false || _) = false; rw [k3]; rfl)
  | cons e es =>
    have pa : PA X (e :: es) t := ha.resolve_left fun z => by cases z
    rw [List.all_cons, Bool.and_eq_true] at stars
    refine PySem.W.callWith_KW (h₀ := X.base) I.ok.mod.kin kp k1 (thn (pa.run pos pins s σ H _ I h) fun us s1 ⟨vs, H1, I1, rel, q⟩ => fin rel I1 q) ?_ (star1 stars.1)
    rw [k3, Bool.or_false]
    exact star2 (by rw [List.all_cons, stars.1, stars.2]; rfl) X.env pos
theorem snd_callk (c : Ctx k S X) {m : Md} {f : Nat} {F : Fn} {as es : EL} {ks : List Nat} {x : Str} {args : List Expr} {kws : List Keyword} {p pos : Pos} (hF : S.P.fn f = some F) (hx : F.name = x) (hg : isGl S.sc x = true) (hdb : (x == ("__debug__" : Str)) = false) (hpk : F.pk.all (fun kn => decide (kn = .val)) = true)
    (named : kws.all (fun q => q.arg.isSome) = true) (hin : (F.name, args.length, kws.filterMap (·.arg), ks) ∈ S.kws) (stars : args.all noStar = true) (ca : chkL S .str as args = true) (ce : chkL S .str es (kws.map (·.value)) = true) (hm : m ≠ .fr ∨ F.fresh = true)
    (ha : SndL k S X .str as args) (hk : KwOk k S X es kws) : SndE k S X m (.callk f as es ks) (.Call (.Name x p) args kws pos) := by
  obtain ⟨fa, fd, h1, h2, hln, h3, h5, h4⟩ := c.fn f F hF
  subst hx
  obtain ⟨tk, pk, ek⟩ := kw_ok hk
  obtain ⟨_, _, _, nl⟩ := kw_each (env := X.env) (pos := pos) named
  have core : ∀ t : TA, LOk k S X .str as t → EOk k S X m (.callk f as es ks) (fun σ H Q => t σ H fun vs H1 => tk σ H1 fun zs H2 => vs.length = args.length ∧ zs.length = (kws.filterMap (·.arg)).length ∧ ∃ ys, permK (vs ++ zs) ks = some ys ∧ spF X.K S.P k f F ys H2 Q E0) := by
    intro t ea O0 H0 env σ H d env' Q s he _ q
    unfold ev at he
    obtain ⟨⟨ds1, en1⟩, g1, he⟩ := bindS he
    obtain ⟨⟨ds2, en2⟩, g2, he⟩ := bindS he
    obtain ⟨ds, g3, he⟩ := bindS he
    obtain ⟨⟨r, os⟩, g4, g5⟩ := Option.map_eq_some_iff.mp he
    obtain ⟨rfl, rfl⟩ := Prod.mk.inj g5
    refine ea O0 H0 env σ H ds1 en1 _ s g1 fun vs H1 s1 k1 r1 => ?_
    refine ek O0 H0 en1 σ H1 ds2 en2 _ s1 g2 fun zs H2 s2 k2 r2 => ?_
    have q1 : Reps X.K (Own S.kd O0 σ) H2 ds1 vs := (MReps.str r1).mono k2.stays
    have q2 : Reps X.K (Own S.kd O0 σ) H2 ds2 zs := MReps.str r2
    obtain ⟨ys, hp, q3⟩ := permR (q1.append q2) g3
    have pkl : F.pk.length = F.ps.length := by
      unfold Fn.pk
      rw [List.length_take]
      omega
    have dl : ds.length = F.ps.length := by
      cases k with
      | zero => cases g4
      | succ k =>
        unfold run at g4
        rw [hF] at g4
        have g4 : (if ds.length = F.ps.length then _ else none) = some (r, os) := g4
        split at g4
        · assumption
        · cases g4
    have hio : ∀ b, ¬ IoV F.pk ys b := fun b ⟨i, hi, _⟩ => by
      have := List.all_eq_true.mp hpk _ (List.mem_of_getElem? hi)
      cases of_decide_eq_true this
    refine ⟨by rw [q1.len, evL_len2 g1, ← chkL_len ca], by rw [q2.len, evL_len2 g2, ← chkL_len ce, List.length_map, nl], ys, hp, Own S.kd O0 σ, ds, r, os, by rw [q3.len, dl], arep_vals hpk (by rw [pkl, dl]) q3, fun i j b hi _ hv _ => (hio b ⟨i, hi, hv⟩).elim, fun b hb => (hio b hb).elim, s2.olst, g4, fun v H3 fr _ rr rf => ?_⟩
    have keep : ∀ b o, H2 b = some o → H3 b = some o := fun b o hb => fr b o hb (hio b)
    have s3 := s2.kept keep
    have k3 : Kp S.kd σ H2 H3 := fun b o hb _ => keep b o hb
    refine q v H3 s3 (k1.trans (k2.trans k3)) ?_
    cases m with
    | str => exact rr
    | vw => exact Rep.v rr
    | fr =>
      obtain ⟨a, l3, xs, e, e', n, hH3, r3⟩ := rf (hm.resolve_left fun z => z rfl)
      exact ⟨a, l3, xs, e, e', s.free s2 (k1.trans k2) n, hH3, r3⟩
  obtain ⟨t, pa, ea⟩ := ha
  cases args with
  | nil =>
    have hz : as = .nil := by
      cases as with
      | nil => rfl
      | cons _ _ => exact (Bool.false_ne_true ca).elim
    subst hz
    refine ⟨_, pe_kw (t := tNil) h4 c.rm c.gd (gl_of c hg) h1 h2 (h5 _ _ _ hin) hdb (.inl rfl) (fun _ => rfl) stars pk named rfl, core tNil fun O0 H0 env σ H ds env' Q s he q => ?_⟩
    unfold evL at he
    cases he
    exact q [] H s .refl rfl
  | cons e es' => exact ⟨_, pe_kw h4 c.rm c.gd (gl_of c hg) h1 h2 (h5 _ _ _ hin) hdb (.inr pa) (fun z => by cases z) stars pk named rfl, core t ea⟩

/-! ### is True, is not False -/
theorem snd_isB {m : Md} {ng b : Bool} {o : CmpOp} {a : E} {a' : Expr} {j : Nat} {p1 pos : Pos} (hm : m ≠ .fr) (ho : (match o with | .Is => !ng | .IsNot => ng | _ => false) = true) (ha : SndE k S X .vw a a') : SndE k S X m (.isB ng b a) (.Compare a' [o] [.Constant (.bool b) j p1] pos) := by
  obtain ⟨ta, pa, ea⟩ := ha
  have core : ∀ r : R2, (∀ c H (Q : VK), Q (.bl (Bool.xor ng (decide (c = b)))) H → r (.bl c) (.bl b) H Q) → EOk k S X m (.isB ng b a) (tOp r ta (tC (.bl b))) := by
    intro r hr O0 H0 env σ H d env' Q s he hf q
    unfold ev at he
    obtain ⟨⟨d1, e1⟩, h1, he⟩ := bindS he
    obtain ⟨c, h2, h3⟩ := Option.map_eq_some_iff.mp he
    obtain ⟨rfl, rfl⟩ := Prod.mk.inj h3
    refine ea O0 H0 env σ H d1 e1 _ s h1 (fun z => by cases z) fun x H1 s1 k1 r1 => ?_
    have r1 : RepV X.K S.kd O0 σ H1 d1 x := r1
    cases d1 <;> first | (cases h2; done) | skip
    cases h2
    rw [r1.bl]
    exact hr _ _ _ (q _ H1 s1 k1 (mBl hm))
  cases o <;> first | exact (Bool.false_ne_true ho).elim | skip
  · cases ng with
    | true => exact (Bool.false_ne_true ho).elim
    | false => exact ⟨_, pe_cmpR op_isBl pa pe_bl (nomark _), core _ fun c H Q q => ⟨c, b, rfl, rfl, by simpa using q⟩⟩
  · cases ng with
    | false => exact (Bool.false_ne_true ho).elim
    | true => exact ⟨_, pe_cmpR op_notBl pa pe_bl (nomark _), core _ fun c H Q q => ⟨c, b, rfl, rfl, by simpa using q⟩⟩
theorem b_isB {ng b : Bool} {o : CmpOp} {a : E} {a' : Expr} {j : Nat} {p1 pos : Pos} (ho : (match o with | .Is => !ng | .IsNot => ng | _ => false) = true) (ha : SndE k S X .vw a a') : SndBW k S X (.isB ng b a) (.Compare a' [o] [.Constant (.bool b) j p1] pos) := by
  obtain ⟨ta, pa, ea⟩ := ha
  have core : ∀ r : R2, (∀ c H (Q : Bool → Hp → Prop), Q (Bool.xor ng (decide (c = b))) H → r (.bl c) (.bl b) H fun x H' => ∃ k, x = .bl k ∧ Q k H') → BOk k S X (.isB ng b a) (tTest (tOp r ta (tC (.bl b)))) := by
    intro r hr O0 H0 env σ H b0 env' Q s he q
    unfold tst at he
    obtain ⟨⟨d1, e1⟩, h1, he⟩ := bindS he
    obtain ⟨c, h2, h3⟩ := Option.map_eq_some_iff.mp he
    obtain ⟨rfl, rfl⟩ := Prod.mk.inj h3
    refine ea O0 H0 env σ H d1 e1 _ s h1 (fun z => by cases z) fun x H1 s1 k1 r1 => ?_
    have r1 : RepV X.K S.kd O0 σ H1 d1 x := r1
    cases d1 <;> first | (cases h2; done) | skip
    cases h2
    rw [r1.bl]
    exact hr _ _ _ (q H1 s1 k1)
  cases o <;> first | exact (Bool.false_ne_true ho).elim | skip
  · cases ng with
    | true => exact (Bool.false_ne_true ho).elim
    | false => exact ⟨_, pt_cmpR op_isBl pa pe_bl (nomark _), (fun ⟨_, _, _, z⟩ => nomatch z), core _ fun c H Q q => ⟨c, b, rfl, rfl, _, rfl, by simpa using q⟩⟩
  · cases ng with
    | false => exact (Bool.false_ne_true ho).elim
    | true => exact ⟨_, pt_cmpR op_notBl pa pe_bl (nomark _), (fun ⟨_, _, _, z⟩ => nomatch z), core _ fun c H Q q => ⟨c, b, rfl, rfl, _, rfl, by simpa using q⟩⟩
end
end LS
/-! LsPa: a tuple read backwards. -/
namespace LS
open PySem PySem.Spec PyProof.Rows L2
section
variable {prog : Program} {w : World} {A : Around} {E : Value → Shared → Prop} {s : Shared}
theorem adj_rev (n : Nat) : Builtin.Slice.sliceAdjust none none (-1) (n : Int) = ((n : Int) - 1, -1) := rfl
theorem places_rev (n : Nat) : Builtin.Slice.slicePlaces ((n : Int) - 1) (-1) (-1) = n := by
  unfold Builtin.Slice.slicePlaces
  rw [if_neg (by decide)]
  by_cases h : (n : Int) - 1 > -1
  · rw [if_pos h, show (- -1 : Int) = 1 from rfl, Int.ediv_one]
    omega
  · rw [if_neg h]
    omega
theorem applied_rev {sl : Addr} {vl vu vs : Value} {n : Nat} {Q : Int × Int × Nat → Shared → Prop} (hs : s.heap.IsSliceOf sl vl vu vs) (pl : IsPart vl none) (pu : IsPart vu none) (ps : IsPart vs (some (-1)))
    (h : Q ((n : Int) - 1, -1, n) s) : wpAny (model prog w) A (Builtin.Slice.sliceApplied (.ref sl) (pure (n : Int))) Q E s := by
  obtain ⟨os, hos, hcs, hds⟩ := id hs
  unfold Builtin.Slice.sliceApplied Builtin.Slice.sliceFields
  refine wpAny_bind (wpAny_bind (wpAny_field hos hds (x := vl) rfl (wpAny_bind (wpAny_field hos hds (x := vu) rfl (wpAny_bind (wpAny_field hos hds (x := vs) rfl (wpAny_pure ?_)))))))
  refine wpAny_bind (HT.slicePart_ ps ?_)
  show wpAny _ _ (if ((-1 : Int) == 0) = true then _ else _) _ _ s
  rw [if_neg (by decide)]
  refine wpAny_bind (HT.slicePart_ pl (wpAny_bind (HT.slicePart_ pu (wpAny_bind (wpAny_pure ?_)))))
  show wpAny _ _ (match Builtin.Slice.sliceAdjust none none (-1) (n : Int) with | (lo, hi) => pure (lo, (-1 : Int), Builtin.Slice.slicePlaces lo hi (-1))) _ _ s
  rw [adj_rev]
  show wpAny _ _ (pure ((n : Int) - 1, (-1 : Int), Builtin.Slice.slicePlaces ((n : Int) - 1) (-1) (-1))) _ _ s
  rw [places_rev]
  exact wpAny_pure h
theorem fm_congr {f g : Nat → Option Value} : ∀ {l : List Nat}, (∀ m ∈ l, f m = g m) → l.filterMap f = l.filterMap g
  | [], _ => rfl
  | m :: l, h => by
    rw [List.filterMap_cons, List.filterMap_cons, h m (List.mem_cons_self ..), fm_congr fun k hk => h k (List.mem_cons_of_mem _ hk)]
theorem pick_rev (xs : Array Value) : ((List.range xs.size).filterMap fun (m : Nat) => xs[(((xs.size : Int) - 1) + (m : Int) * (-1)).toNat]?).toArray = xs.toList.reverse.toArray := by
  have e : ((List.range xs.size).filterMap fun (m : Nat) => xs[(((xs.size : Int) - 1) + (m : Int) * (-1)).toNat]?) = ((List.range xs.size).map fun k => xs.size - 1 - k).filterMap (xs[·]?) := by
    rw [List.filterMap_map]
    refine fm_congr fun m hm => ?_
    have := List.mem_range.mp hm
    have : (((xs.size : Int) - 1) + (m : Int) * (-1)).toNat = xs.size - 1 - m := by omega
    rw [this]
    rfl
  rw [e, PySem.W.krv_range, List.filterMap_reverse, PySem.W.krv_all]
theorem getItem_tuple_rev {t sl : Addr} {items : Array Value} {vl vu vs : Value} {Q : Value → Shared → Prop} (ht : IsTup s.heap t items) (hs : s.heap.IsSliceOf sl vl vu vs) (pl : IsPart vl none) (pu : IsPart vu none) (ps : IsPart vs (some (-1)))
    (h : Q (.ref s.heap.objs.size) { s with heap := s.heap.push { cls := .type "tuple", data := .seq items.toList.reverse.toArray } })
    (hsz : items.size ≤ sizeLine) : wpAny (model prog w) A (getItem (.ref t) (.ref sl)) Q E s := by
  have htake : sizeOk (.seq items.toList.reverse.toArray) := by
    show items.toList.reverse.toArray.size ≤ sizeLine
    rw [List.size_toArray, List.length_reverse, Array.length_toList]
    exact hsz
  obtain ⟨os, hos, hcs, hds⟩ := id hs
  have hTs : s.TypeIs (.ref sl) "slice" := ⟨os, hos, hcs⟩
  unfold getItem
  try with_reducible refine wpAny_holding ?_
  first | refine wpAny_bind (wpAny_pure ?_) | skip
  refine wpAny_bind (wpAny_sequenceKey ht.typeIs (by decide) ?_)
  refine wpAny_bind (wpAny_callSpecial?_slot (name := Str.ofString "__getitem__") ht.typeIs PyProof.Rows.slot_tuple_getitem
    (wpAny_call_entry PyProof.Rows.slot_tuple_getitem ht.typeIs entry_tuple_getitem ?_ (args_tuple_getitem _ _)))
  show wpAny _ _ (Builtin.Tuple.tupleItemsOf (.ref t) >>= _) _ _ s
  refine wpAny_bind (tupleItemsOf_ ht ?_)
  refine wpAny_bind (wpAny_typeOf hTs ?_)
  rw [if_pos (by decide)]
  refine wpAny_bind (applied_rev hs pl pu ps ?_)
  have hno : ¬ ((((items.size : Int) - 1) == 0 && (-1 : Int) == 1 && items.size == items.size) = true) := by
    intro q
    rw [Bool.and_eq_true, Bool.and_eq_true] at q
    exact absurd q.1.2 (by decide)
  show wpAny _ _ (if (((items.size : Int) - 1) == 0 && (-1 : Int) == 1 && items.size == items.size) = true then _ else _) _ _ s
  rw [if_neg hno, pick_rev]
  first
    | exact wpAny_bind (m := Builtin.Tuple.tupleExact _) (wpAny_newObj_type (wpAny_pure ⟨_, rfl, wpAny_pure h⟩) htake)
    | exact wpAny_bind (m := Builtin.Tuple.tupleExact _) (wpAny_newObj_type (wpAny_bind (wpAny_pure (wpAny_pure ⟨_, rfl, wpAny_pure h⟩))) htake)
    | exact wpAny_bind (wpAny_bind (m := Builtin.Tuple.tupleExact _) (wpAny_newObj_type (wpAny_pure (wpAny_pure ⟨_, rfl, wpAny_pure h⟩)) htake))
    | exact wpAny_bind (wpAny_bind (m := Builtin.Tuple.tupleExact _) (wpAny_newObj_type (wpAny_pure ⟨_, rfl, wpAny_pure h⟩) htake))
end
def tRevA (K : PySem.W.Frag) (te : TE) : TE := fun σ H Q => te σ H fun x H1 => ∃ a xs, x = .ref a ∧ ((SqL K H1 a xs ∧ ∀ p, H1 p = none → Q (.ref p) (upd H1 p (.lst xs.reverse))) ∨ (SqT K H1 a xs ∧ ∀ p, H1 p = none → Q (.ref p) (upd H1 p (.tup xs.reverse))))
theorem pe_revA {X : Cx} {e : Expr} {te : TE} {k : Nat} {p1 p2 p3 pos : Pos} (he : PE X e te) : PE X (.Subscript e (.Slice none none (some (.UnaryOp .USub (.Constant (.int 1) k p1) p2)) p3) pos) (tRevA X.K te) := by
  refine ⟨fun pins s σ H Q I h => ?_⟩
  refine Subscript_ (thn (he.run pins s σ H _ I h) fun v s1 ⟨x, H1, I1, r1, q1⟩ => ?_)
  obtain ⟨a, xs, ex, hx⟩ := q1
  subst ex
  cases r1
  have hst : PO X (some (.UnaryOp .USub (.Constant (.int 1) k p1) p2)) (tPart (tUn (rU fun i => .int (-i)) (tC (.int 1)))) := po_some (pe_un un_neg pe_int)
  refine wpAny_Slice (thn (po_none.run pins s1 σ H1 (fun o H2 => o = none ∧ H2 = H1) I1 ⟨rfl, rfl⟩) fun vl s2 ⟨l, H2, I2, pl, el, e2⟩ => ?_)
  subst el e2
  refine thn (po_none.run pins s2 σ H2 (fun o H3 => o = none ∧ H3 = H2) I2 ⟨rfl, rfl⟩) fun vu s3 ⟨u, H3, I3, pu, eu, e3⟩ => ?_
  subst eu e3
  refine thn (hst.run pins s3 σ H3 (fun o H4 => o = some (-1) ∧ H4 = H3) I3 ⟨1, rfl, -1, rfl, rfl, rfl⟩) fun vs s4 ⟨o, H4, I4, ps, eo, e4⟩ => ?_
  subst eo e4
  have I5 : Inv X pins σ H4 { s4 with heap := s4.heap.push { cls := .type "slice", data := .fields #[vl, vu, vs] } } := I4.kept (t' := s4.toks) fun b ob q => Heap.get?_push_of_some _ q
  show wpAny (model X.prog X.w) X.A (subscriptTail e (.Slice none none (some (.UnaryOp .USub (.Constant (.int 1) k p1) p2)) p3) (.ref a) (.ref s4.heap.objs.size)) (EP X pins σ Q) X.xe { s4 with heap := s4.heap.push { cls := .type "slice", data := .fields #[vl, vu, vs] } }
  rcases hx with ⟨hx, q⟩ | ⟨hx, q⟩
  · obtain ⟨its, r, ht, hz⟩ := I5.list hx
    have hlen := r.length
    refine tail_any (ops := [.ref a, .ref s4.heap.objs.size]) ht.isList.typeIs (PySem.slot_list_getitem.lookup) ?_ (by with_unfolding_all rfl)
    refine wpAny_getItem_list_slice ht.isList (Heap.IsSliceOf.new _ vl vu vs) pl pu ps (by decide) ?_ (by rw [List.size_toArray]; omega)
    rw [PySem.W.krv_pick]
    refine ⟨.ref _, _, I5.laid (t' := s4.toks) (o := .lst xs.reverse) (fun b ob q => Heap.get?_push_of_some _ q) (Nat.le_refl _) ?_, rfl, q _ (I5.hok.fresh (Nat.le_refl _))⟩
    exact ⟨by rw [List.length_reverse]; exact hz, _, 0, r.reverse, Heap.get?_push_size _ rfl⟩
  · obtain ⟨its, r, ht, hz⟩ := I5.tuple hx
    have hlen := r.length
    refine tail_any (ops := [.ref a, .ref s4.heap.objs.size]) ht.typeIs (PyProof.Rows.slot_tuple_getitem.lookup) ?_ (by with_unfolding_all rfl)
    refine getItem_tuple_rev ht (Heap.IsSliceOf.new _ vl vu vs) pl pu ps ?_ (by rw [List.size_toArray]; omega)
    refine ⟨.ref _, _, I5.laid (t' := s4.toks) (o := .tup xs.reverse) (fun b ob q => Heap.get?_push_of_some _ q) (Nat.le_refl _) ?_, rfl, q _ (I5.hok.fresh (Nat.le_refl _))⟩
    exact ⟨by rw [List.length_reverse]; exact hz, _, r.reverse, IsTup.new _ _⟩
end LS
/-! LsP: what the look at an expression says. -/
namespace LS
open PySem PySem.Spec PyProof.Rows L2

section
variable {k : Nat} {S : Sta} {X : Cx}
theorem snd_rev {m : Md} {a : E} {a' : Expr} {j : Nat} {p1 p2 p3 pos : Pos} (ha : SndE k S X .vw a a') : SndE k S X m (.rev a) (.Subscript a' (.Slice none none (some (.UnaryOp .USub (.Constant (.int 1) j p1) p2)) p3) pos) := by
  obtain ⟨t, pa, ea⟩ := ha
  refine ⟨_, pe_revA pa, fun O0 H0 env σ H d env' Q s he hf q => ?_⟩
  unfold ev at he
  obtain ⟨⟨d1, e1⟩, h1, he⟩ := bindS he
  obtain ⟨d', h4, he⟩ := Option.map_eq_some_iff.mp he
  obtain ⟨rfl, rfl⟩ := Prod.mk.inj he
  refine ea O0 H0 env σ H d1 e1 _ s h1 (fun z => by cases z) fun x H1 s1 k1 r1 => ?_
  have r1 : RepV X.K S.kd O0 σ H1 d1 x := r1
  cases d1 with
  | lst l =>
    have e : D.lst l.reverse = d' := Option.some.inj h4
    subst e
    obtain ⟨p, xs, rfl, e, rr⟩ := r1.lst
    exact ⟨p, xs, rfl, .inl ⟨SqL.of e, fun p n => q _ _ (s1.laid n) (k1.trans (.laid n)) (MRep.of_f s (rep_newL (s.free s1 k1 n) n rr.reverse))⟩⟩
  | tup l =>
    have e : D.tup l.reverse = d' := Option.some.inj h4
    subst e
    obtain ⟨p, xs, rfl, e, rr⟩ := r1.tup
    refine ⟨p, xs, rfl, .inr ⟨e, fun p n => q _ _ (s1.laid n) (k1.trans (.laid n)) (.of_s ?_ (rep_newT s1 n rr.reverse))⟩⟩
    rintro rfl
    obtain ⟨_, z⟩ := hf rfl
    cases z
  | _ => cases h4
theorem snd_not {m : Md} {a : E} {a' : Expr} {pos : Pos} (hm : m ≠ .fr) (ha : SndE k S X .vw a a') : SndE k S X m (.not a) (.UnaryOp .Not a' pos) := by
  obtain ⟨t, pa, ea⟩ := ha
  refine ⟨_, pe_notT pa, fun O0 H0 env σ H d env' Q s he hf q => ?_⟩
  unfold ev at he
  obtain ⟨⟨d1, e1⟩, h1, he⟩ := bindS he
  obtain ⟨b, h4, he⟩ := Option.map_eq_some_iff.mp he
  obtain ⟨rfl, rfl⟩ := Prod.mk.inj he
  refine ea O0 H0 env σ H d1 e1 _ s h1 (fun z => by cases z) fun x H1 s1 k1 r1 => ?_
  exact ⟨b, RepV.tru r1 h4, q _ H1 s1 k1 (.of_s hm (by unfold Rep; rfl))⟩
theorem snd_gn (c : Ctx k S X) {m : Md} {n : Nat} {x : Str} {pos : Pos} (hm : m ≠ .fr) (hx : x = S.gn n) (hg : isGl S.sc x = true) : SndE k S X m (.g n) (.Name x pos) := by
  subst hx
  cases hd : S.P.gl n with
  | none =>
    refine ⟨fun _ _ _ => False, ⟨fun _ _ _ _ _ _ h => h.elim⟩, fun O0 H0 env σ H d env' Q s he _ q => ?_⟩
    unfold ev at he
    rw [hd] at he
    cases he
  | some d =>
    obtain ⟨u, v, g1, g2, g3, g4⟩ := c.gl n d hd
    refine ⟨_, pe_glob (gl_of c hg) g1 g2 g3, fun O0 H0 env σ H d' env' Q s he _ q => ?_⟩
    unfold ev at he
    rw [hd] at he
    cases he
    exact q v H s .refl (.of_s hm (g4 _ _))
end
example {S : Sta} {p : Pos} : chk S .str (.int 3) (.Constant (.int 3) 0 p) = true := rfl
example {S : Sta} {p : Pos} (h : chk S .str (.int 3) (.Name ("a" : Str) p) = true) : False := Bool.false_ne_true h
end LS
set_option maxHeartbeats 1000000
/-! LsQ: whatever passes the look does what the evaluator says: expressions. -/
namespace LS
open PySem PySem.Spec PyProof.Rows L2

section
variable {k : Nat}
theorem kd_val_of {S : Sta} {own : List Nat} (h : own.all (fun i => decide (S.kd[i]? = some .val)) = true) : ∀ i ∈ own, S.kd[i]? = some .val := fun i hi => of_decide_eq_true (List.all_eq_true.mp h i hi)
theorem slots_own {t : T} {own : List Nat} (h : (T.slots t).all (fun i => own.contains i) = true) : ∀ i ∈ T.slots t, i ∈ own := fun i hi => by
  have := List.all_eq_true.mp h i hi
  simpa using this
theorem noSet_ok {X : Cx} {e : Expr} (h : noSetE e = true) : ∀ x, foldedSetIterable e X.env x = pure x := by
  cases e <;> first | exact (Bool.false_ne_true h).elim | (intro _; rfl)
theorem g_uni {S : Sta} {X : Cx} (c : Ctx k S X) {scope : Scope} {own : List (Str × Nat)} (hb : blkC S.N S.sc scope own = true) {t : T} {tg : Expr} (h : chkT (blkS S scope) t tg = true) : ∃ g, (∀ b : Bk, PG (b.cx X scope) tg g) ∧ ∀ X', X'.K = X.K → GOk S X' t g := by
  refine uni_g (f := fun b : Bk => b.cx X scope) (P := fun g => ∀ X', X'.K = X.K → GOk S X' t g) (fun (ts : Bk → TG) (hp : ∀ i, ∀ X', X'.K = X.K → GOk S X' t (ts i)) X' e O0 H0 env σ H d v env' Q s h1 h2 q i => hp i X' e O0 H0 env σ H d v env' Q s h1 h2 q) fun b => ?_
  obtain ⟨g, p, q⟩ := snd_g (k := k) (ctx_blk c hb b.s b.H b.C b.cl b.fp) h
  refine ⟨g, p, fun X' e O0 H0 env σ H d v env' Q s h1 h2 q2 => ?_⟩
  rw [e] at s h2 q2
  exact q O0 H0 env σ H d v env' Q s h1 h2 q2
theorem e_uni {S : Sta} {X : Cx} {scope : Scope} {el : E} {elt : Expr} (h : ∀ b : Bk, SndE k (blkS S scope) (b.cx X scope) .str el elt) : ∃ t, (∀ b : Bk, PE (b.cx X scope) elt t) ∧ ∀ X', X'.K = X.K → EOk k S X' .str el t := by
  refine uni_e (f := fun b : Bk => b.cx X scope) (P := fun t => ∀ X', X'.K = X.K → EOk k S X' .str el t) (fun (ts : Bk → TE) (hp : ∀ i, ∀ X', X'.K = X.K → EOk k S X' .str el (ts i)) X' e O0 H0 env σ H d env' Q s h1 h2 q i => hp i X' e O0 H0 env σ H d env' Q s h1 h2 q) fun b => ?_
  obtain ⟨t, p, q⟩ := h b
  refine ⟨t, p, fun X' e O0 H0 env σ H d env' Q s h1 h2 q2 => ?_⟩
  rw [e] at s q2
  exact q O0 H0 env σ H d env' Q s h1 h2 q2
theorem t_uni {S : Sta} {X : Cx} {scope : Scope} {e : E} {a : Expr} (h : ∀ b : Bk, SndB k (blkS S scope) (b.cx X scope) e a) : ∃ t, (∀ b : Bk, PT (b.cx X scope) a t) ∧ TsOk k S X.K (fun env => tst (run S.P k) S.P.gl e env) t := by
  refine uni_t (f := fun b : Bk => b.cx X scope) (P := fun t => TsOk k S X.K (fun env => tst (run S.P k) S.P.gl e env) t) (fun ts hp O0 H0 env σ H d env' Q s h1 q i => hp i O0 H0 env σ H d env' Q s h1 q) fun b => ?_
  obtain ⟨t, p, q⟩ := h b
  exact ⟨t, p, fun O0 H0 env σ H d env' Q s h1 q2 => q O0 H0 env σ H d env' Q s h1 q2⟩
theorem snd_lc {S : Sta} {X : Cx} (c : Ctx k S X) {m : Md} {el : E} {t : T} {it : I} {own : List Nat} {elt' tg iter : Expr} {scope : Scope} {pos : Pos} (hi : SndI k S X .vw it tg iter) (hb : blkC S.N S.sc scope (ownNames S own) = true)
    (hv : own.all (fun i => decide (S.kd[i]? = some .val)) = true) (ht : chkT (blkS S scope) t tg = true) (hsl : (T.slots t).all (fun i => own.contains i) = true) (hs : noSetE iter = true) (he : ∀ b : Bk, SndE k (blkS S scope) (b.cx X scope) .str el elt') : SndC k S X m (.lc el t it own) (.ListComp elt' [⟨tg, iter, [], 0⟩] scope pos) := by
  obtain ⟨g, pg, go⟩ := g_uni c hb ht
  obtain ⟨te, pe, eo⟩ := e_uni he
  refine snd_lcG c (cF := fun e => some (true, e)) hi hb (kd_val_of hv) (slots_own hsl) (noSet_ok hs) pg go (fun b => pts_nil) ?_ pe eo fun env => ?_
  · intro O0 H0 env σ H d env' Q s h1 q
    cases h1
    exact q H s .refl
  · show ev _ _ _ _ = _
    conv => lhs; unfold ev
    simp only [lcL_if]
theorem snd_lcif {S : Sta} {X : Cx} (c : Ctx k S X) {m : Md} {el cd : E} {t : T} {it : I} {own : List Nat} {elt' tg iter c' : Expr} {scope : Scope} {pos : Pos} (hi : SndI k S X .vw it tg iter) (hb : blkC S.N S.sc scope (ownNames S own) = true)
    (hv : own.all (fun i => decide (S.kd[i]? = some .val)) = true) (ht : chkT (blkS S scope) t tg = true) (hsl : (T.slots t).all (fun i => own.contains i) = true) (hs : noSetE iter = true) (he : ∀ b : Bk, SndE k (blkS S scope) (b.cx X scope) .str el elt') (hc : ∀ b : Bk, SndB k (blkS S scope) (b.cx X scope) cd c') : SndC k S X m (.lcif el t it cd own) (.ListComp elt' [⟨tg, iter, [c'], 0⟩] scope pos) := by
  obtain ⟨g, pg, go⟩ := g_uni c hb ht
  obtain ⟨te, pe, eo⟩ := e_uni he
  obtain ⟨tt, pt, to⟩ := t_uni hc
  exact snd_lcG c (cF := fun e => tst (run S.P k) S.P.gl cd e) hi hb (kd_val_of hv) (slots_own hsl) (noSet_ok hs) pg go (fun b => pts_one (pt b)) to pe eo fun env => by
    conv => lhs; unfold ev

theorem not_bool {a : Expr} (h : ∀ op vs p, a ≠ .BoolOp op vs p) : ¬ ∃ op vs p, a = .BoolOp op vs p := fun ⟨op, vs, p, e⟩ => h op vs p e

mutual
theorem snd_e : ∀ (e : E) {S : Sta} {X : Cx} {m : Md} {a : Expr}, Ctx k S X → chk S m e a = true → SndE k S X m e a
  | .v i, S, X, m, a, c, h => by
    cases a <;> first | exact (Bool.false_ne_true h).elim | exact snd_v c h
  | .int i, S, X, m, a, c, h => by
    cases a <;> first | exact (Bool.false_ne_true h).elim | skip
    rename_i v j pos
    cases v <;> first | exact (Bool.false_ne_true h).elim | skip
    have h := Bool.and_eq_true_iff.mp h
    obtain rfl := of_decide_eq_true h.1
    exact snd_c (of_decide_eq_true h.2) pe_int (fun _ => by unfold ev; rfl) fun _ _ => by unfold Rep; rfl
  | .bl b, S, X, m, a, c, h => by
    cases a <;> first | exact (Bool.false_ne_true h).elim | skip
    rename_i v j pos
    cases v <;> first | exact (Bool.false_ne_true h).elim | skip
    have h := Bool.and_eq_true_iff.mp h
    obtain rfl := of_decide_eq_true h.1
    exact snd_c (of_decide_eq_true h.2) pe_bl (fun _ => by unfold ev; rfl) fun _ _ => by unfold Rep; rfl
  | .str b, S, X, m, a, c, h => by
    cases a <;> first | exact (Bool.false_ne_true h).elim | skip
    rename_i v j pos
    cases v <;> first | exact (Bool.false_ne_true h).elim | skip
    have h := Bool.and_eq_true_iff.mp h
    obtain rfl := of_decide_eq_true h.1
    exact snd_c (of_decide_eq_true h.2) pe_str (fun _ => by unfold ev; rfl) fun _ _ => by unfold Rep; rfl
  | .non, S, X, m, a, c, h => by
    cases a <;> first | exact (Bool.false_ne_true h).elim | skip
    rename_i v j pos
    cases v <;> first | exact (Bool.false_ne_true h).elim | skip
    exact snd_c (of_decide_eq_true h) pe_non (fun _ => by unfold ev; rfl) fun _ _ => by unfold Rep; rfl
  | .dic0, S, X, m, a, c, h => by
    cases a <;> first | exact (Bool.false_ne_true h).elim | skip
    rename_i ks vs pos
    match ks, vs, h with
    | [], [], h => exact snd_dic0 (of_decide_eq_true h)
  | .dic1 x i, S, X, m, a, c, h => by
    cases a <;> first | exact (Bool.false_ne_true h).elim | skip
    rename_i ks vs pos
    match ks, vs, h with
    | [some (.Constant (.str y) _ _)], [.Constant (.int j) _ _], h =>
      have h := Bool.and_eq_true_iff.mp h
      have h1 := Bool.and_eq_true_iff.mp h.1
      obtain rfl := of_decide_eq_true h1.1
      obtain rfl := of_decide_eq_true h1.2
      exact snd_dic1 (of_decide_eq_true h.2)
  | .g n, S, X, m, a, c, h => by
    cases a <;> first | exact (Bool.false_ne_true h).elim | skip
    have h := Bool.and_eq_true_iff.mp h
    have h1 := Bool.and_eq_true_iff.mp h.1
    exact snd_gn c (of_decide_eq_true h.2) (of_decide_eq_true h1.1) h1.2
  | .tup es, S, X, m, a, c, h => by
    cases a <;> first | exact (Bool.false_ne_true h).elim | skip
    have h := Bool.and_eq_true_iff.mp h
    have h1 := Bool.and_eq_true_iff.mp h.1
    exact snd_tup (of_decide_eq_true h1.1) h1.2 (of_decide_eq_true h.2) (snd_es es (by decide) c h1.2)
  | .lst es, S, X, m, a, c, h => by
    cases a <;> first | exact (Bool.false_ne_true h).elim | skip
    have h := Bool.and_eq_true_iff.mp h
    exact snd_lst h.1 (of_decide_eq_true h.2) (snd_es es (by decide) c h.1)
  | .op o x y, S, X, m, a, c, h => by
    cases a <;> first | exact (Bool.false_ne_true h).elim | skip
    have h := Bool.and_eq_true_iff.mp h
    have h1 := Bool.and_eq_true_iff.mp h.1
    exact snd_op h1.1 (snd_e x c h1.2) (snd_e y c h.2)
  | .neg x, S, X, m, a, c, h => by
    cases a <;> first | exact (Bool.false_ne_true h).elim | skip
    rename_i op a' pos
    cases op <;> first | exact (Bool.false_ne_true h).elim | skip
    have h := Bool.and_eq_true_iff.mp h
    exact snd_neg (of_decide_eq_true h.2) (snd_e x c h.1)
  | .not x, S, X, m, a, c, h => by
    cases a <;> first | exact (Bool.false_ne_true h).elim | skip
    rename_i op a' pos
    cases op <;> first | exact (Bool.false_ne_true h).elim | skip
    have h := Bool.and_eq_true_iff.mp h
    exact snd_not (of_decide_eq_true h.2) (snd_e x c h.1)
  | .and x y, S, X, m, a, c, h => by
    cases a <;> first | exact (Bool.false_ne_true h).elim | skip
    rename_i op vs pos
    cases op <;> first | exact (Bool.false_ne_true h).elim | skip
    match vs, h with
    | [], h => exact (Bool.false_ne_true h).elim
    | [_], h => exact (Bool.false_ne_true h).elim
    | a' :: c' :: [], h =>
      have h := Bool.and_eq_true_iff.mp h
      have h1 := Bool.and_eq_true_iff.mp h.1
      obtain rfl := of_decide_eq_true h1.1
      exact snd_and (snd_e x c h1.2) (snd_one (snd_e y c h.2))
    | a' :: c' :: d' :: r, h =>
      have h := Bool.and_eq_true_iff.mp h
      have h1 := Bool.and_eq_true_iff.mp h.1
      obtain rfl := of_decide_eq_true h1.1
      exact snd_and (snd_e x c h1.2) (snd_e y c h.2)
  | .or x y, S, X, m, a, c, h => by
    cases a <;> first | exact (Bool.false_ne_true h).elim | skip
    rename_i op vs pos
    cases op <;> first | exact (Bool.false_ne_true h).elim | skip
    match vs, h with
    | [], h => exact (Bool.false_ne_true h).elim
    | [_], h => exact (Bool.false_ne_true h).elim
    | a' :: c' :: [], h =>
      have h := Bool.and_eq_true_iff.mp h
      have h1 := Bool.and_eq_true_iff.mp h.1
      obtain rfl := of_decide_eq_true h1.1
      exact snd_or (snd_e x c h1.2) (snd_one (snd_e y c h.2))
    | a' :: c' :: d' :: r, h =>
      have h := Bool.and_eq_true_iff.mp h
      have h1 := Bool.and_eq_true_iff.mp h.1
      obtain rfl := of_decide_eq_true h1.1
      exact snd_or (snd_e x c h1.2) (snd_e y c h.2)
  | .cmp o x y, S, X, m, a, c, h => by
    cases a <;> first | exact (Bool.false_ne_true h).elim | skip
    rename_i a' ops bs pos
    match ops, bs, h with
    | [], _, h => exact (Bool.false_ne_true h).elim
    | [_], [], h => exact (Bool.false_ne_true h).elim
    | [_], _ :: _ :: _, h => exact (Bool.false_ne_true h).elim
    | _ :: _ :: _, _, h => exact (Bool.false_ne_true h).elim
    | [o'], [b'], h =>
      have h := Bool.and_eq_true_iff.mp h
      have h1 := Bool.and_eq_true_iff.mp h.1
      have h2 := Bool.and_eq_true_iff.mp h1.1
      exact snd_cmp c (of_decide_eq_true h.2) h2.1 (snd_e x c h2.2) (snd_e y c h1.2)
  | .chn o1 o2 x y z, S, X, m, a, c, h => by
    cases a <;> first | exact (Bool.false_ne_true h).elim | skip
    rename_i a' ops bs pos
    match ops, bs, h with
    | [], _, h => exact (Bool.false_ne_true h).elim
    | [_], _, h => exact (Bool.false_ne_true h).elim
    | _ :: _ :: _ :: _, _, h => exact (Bool.false_ne_true h).elim
    | [_, _], [], h => exact (Bool.false_ne_true h).elim
    | [_, _], [_], h => exact (Bool.false_ne_true h).elim
    | [_, _], _ :: _ :: _ :: _, h => exact (Bool.false_ne_true h).elim
    | [_, _], [_, _], h =>
      have h := Bool.and_eq_true_iff.mp h
      have h1 := Bool.and_eq_true_iff.mp h.1
      have h2 := Bool.and_eq_true_iff.mp h1.1
      have h3 := Bool.and_eq_true_iff.mp h2.1
      have h4 := Bool.and_eq_true_iff.mp h3.1
      exact snd_chn c (of_decide_eq_true h.2) h4.1 h4.2 (snd_e x c h3.2) (snd_e y c h2.2) (snd_e z c h1.2)
  | .isN x, S, X, m, a, c, h => by
    cases a <;> first | exact (Bool.false_ne_true h).elim | skip
    rename_i a' ops bs pos
    match ops, bs, h with
    | [.Is], [.Constant .none _ _], h =>
      have h := Bool.and_eq_true_iff.mp h
      exact snd_isN (of_decide_eq_true h.2) (snd_e x c h.1)
  | .isNN x, S, X, m, a, c, h => by
    cases a <;> first | exact (Bool.false_ne_true h).elim | skip
    rename_i a' ops bs pos
    match ops, bs, h with
    | [.IsNot], [.Constant .none _ _], h =>
      have h := Bool.and_eq_true_iff.mp h
      exact snd_isNN (of_decide_eq_true h.2) (snd_e x c h.1)
  | .ife cd x y, S, X, m, a, c, h => by
    cases a <;> first | exact (Bool.false_ne_true h).elim | skip
    have h := Bool.and_eq_true_iff.mp h
    have h1 := Bool.and_eq_true_iff.mp h.1
    exact snd_ife (snd_b cd c h1.1).b (snd_e x c h1.2) (snd_e y c h.2)
  | .ix x i, S, X, m, a, c, h => by
    cases a <;> first | exact (Bool.false_ne_true h).elim | skip
    rename_i a' i' pos
    have h := Bool.and_eq_true_iff.mp h
    have h1 := Bool.and_eq_true_iff.mp h.1
    have h2 := Bool.and_eq_true_iff.mp h1.1
    rcases Bool.or_eq_true_iff.mp h2.1 with g | g
    · cases x <;> first | exact (Bool.false_ne_true g).elim | skip
      cases a' <;> first | exact (Bool.false_ne_true g).elim | skip
      have g := Bool.and_eq_true_iff.mp g
      have g1 := Bool.and_eq_true_iff.mp g.1
      have g2 := g.2
      cases i <;> first | exact (Bool.false_ne_true g2).elim | skip
      exact snd_ixo c (of_decide_eq_true h.2) (of_decide_eq_true g1.1) g1.2 h1.2 h2.2
    · exact snd_ix (of_decide_eq_true h.2) h1.2 (snd_e x c g) (snd_e i c h2.2)
  | .sl x lo hi, S, X, m, a, c, h => by
    cases a <;> first | exact (Bool.false_ne_true h).elim | skip
    rename_i a' i' pos
    cases i' <;> first | exact (Bool.false_ne_true h).elim | skip
    rename_i l u st p2
    cases st <;> first | exact (Bool.false_ne_true h).elim | skip
    have h := Bool.and_eq_true_iff.mp h
    have h1 := Bool.and_eq_true_iff.mp h.1
    exact snd_sl (snd_e x c h1.1) (snd_o lo c h1.2) (snd_o hi c h.2)
  | .rev x, S, X, m, a, c, h => by
    cases a <;> first | exact (Bool.false_ne_true h).elim | skip
    rename_i a' i' pos
    cases i' <;> first | exact (Bool.false_ne_true h).elim | skip
    rename_i l u st p2
    cases l <;> first | exact (Bool.false_ne_true h).elim | skip
    cases u <;> first | exact (Bool.false_ne_true h).elim | skip
    cases st <;> first | exact (Bool.false_ne_true h).elim | skip
    rename_i st
    cases st <;> first | exact (Bool.false_ne_true h).elim | skip
    rename_i op st p3
    cases op <;> first | exact (Bool.false_ne_true h).elim | skip
    cases st <;> first | exact (Bool.false_ne_true h).elim | skip
    rename_i v j p4
    cases v <;> first | exact (Bool.false_ne_true h).elim | skip
    rename_i n
    match n, h with
    | .ofNat 0, h => exact (Bool.false_ne_true h).elim
    | .ofNat 1, h => exact snd_rev (snd_e x c h)
    | .ofNat (_ + 2), h => exact (Bool.false_ne_true h).elim
    | .negSucc _, h => exact (Bool.false_ne_true h).elim
  | .call f as, S, X, m, a, c, h => by
    cases a <;> first | exact (Bool.false_ne_true h).elim | skip
    rename_i fn args kw pos
    cases fn <;> first | exact (Bool.false_ne_true h).elim | skip
    cases kw <;> first | exact (Bool.false_ne_true h).elim | skip
    unfold chk at h
    cases hF : S.P.fn f with
    | none => rw [hF] at h; exact (Bool.false_ne_true h).elim
    | some F =>
      rw [hF] at h
      have h := Bool.and_eq_true_iff.mp h
      have h1 := Bool.and_eq_true_iff.mp h.1
      have h2 := Bool.and_eq_true_iff.mp h1.1
      have h3 := Bool.and_eq_true_iff.mp h2.1
      have h4 := Bool.and_eq_true_iff.mp h3.1
      refine snd_call c hF (of_decide_eq_true h4.1) h4.2 (by simpa using h3.2) h2.2 ?_ h.2 (snd_a as c h2.2)
      rcases Bool.or_eq_true_iff.mp h1.2 with g | g
      · exact .inl (of_decide_eq_true g)
      · have g := Bool.and_eq_true_iff.mp g
        exact .inr ⟨g.1, by simpa using g.2⟩
  | .callT f g as, S, X, m, a, c, h => by
    cases a <;> first | exact (Bool.false_ne_true h).elim | skip
    rename_i fn args kw pos
    match fn, args, kw, h with
    | .Name x px, [.Call (.Name y p2) args' [] pos2], [], h =>
      unfold chk at h
      cases hF : S.P.fn f with
      | none => rw [hF] at h; exact (Bool.false_ne_true h).elim
      | some F =>
        cases hG : S.P.fn g with
        | none => rw [hF, hG] at h; exact (Bool.false_ne_true h).elim
        | some G =>
          rw [hF, hG] at h
          simp only [Bool.and_eq_true, decide_eq_true_eq, Bool.not_eq_true', Bool.or_eq_true] at h
          obtain ⟨⟨⟨⟨⟨⟨⟨⟨⟨⟨⟨⟨a1, a2⟩, a3⟩, a4⟩, a5⟩, a6⟩, a7⟩, a8⟩, a9⟩, b1⟩, b2⟩, b3⟩, b4⟩ := h
          exact snd_callT c hF a1 a2 a3 a4 hG a5 a6 a7 a8 a9 b1 b2 b3 b4 (snd_a as c a9)
  | .callk f as es ks, S, X, m, a, c, h => by
    cases a <;> first | exact (Bool.false_ne_true h).elim | skip
    rename_i fn args kw pos
    cases fn <;> first | exact (Bool.false_ne_true h).elim | skip
    unfold chk at h
    cases hF : S.P.fn f with
    | none => rw [hF] at h; exact (Bool.false_ne_true h).elim
    | some F =>
      rw [hF] at h
      simp only [Bool.and_eq_true, decide_eq_true_eq, Bool.not_eq_true', Bool.or_eq_true] at h
      obtain ⟨⟨⟨⟨⟨⟨⟨⟨⟨⟨a1, a2⟩, a3⟩, a4⟩, a5⟩, a6⟩, a7⟩, a8⟩, a9⟩, b1⟩, b2⟩ := h
      exact snd_callk c hF a1 a2 a3 a4 a5 a6 a7 a8 a9 b2 (snd_es as (by decide) c a8) (snd_k es c a9)
  | .isB ng b x, S, X, m, a, c, h => by
    cases a <;> first | exact (Bool.false_ne_true h).elim | skip
    rename_i a' ops bs pos
    match ops, bs, h with
    | [o], [.Constant (.bool b') _ _], h =>
      have h := Bool.and_eq_true_iff.mp h
      have h1 := Bool.and_eq_true_iff.mp h.1
      have h2 := Bool.and_eq_true_iff.mp h1.1
      obtain rfl := of_decide_eq_true h2.2
      exact snd_isB (of_decide_eq_true h.2) h2.1 (snd_e x c h1.2)
  | .bi b es, S, X, m, a, c, h => by
    cases a <;> first | exact (Bool.false_ne_true h).elim | skip
    rename_i fn args kw pos
    cases fn <;> first | exact (Bool.false_ne_true h).elim | skip
    cases kw <;> first | exact (Bool.false_ne_true h).elim | skip
    unfold chk at h
    simp only [Bool.and_eq_true, decide_eq_true_eq, Bool.or_eq_true] at h
    obtain ⟨⟨⟨⟨⟨⟨a1, a2⟩, a3⟩, a4⟩, a5⟩, a6⟩, a7⟩ := h
    exact snd_bi c a1 a2 (by
      split at a3
      · rename_i hb; rw [if_pos hb]; exact a3
      · rename_i hb; rw [if_neg hb]; exact a3) a5 a6 a7 (snd_es es (by decide) c a4)
  | .isi ty x, S, X, m, a, c, h => by
    cases a <;> first | exact (Bool.false_ne_true h).elim | skip
    rename_i fn args kw pos
    match fn, args, kw, h with
    | .Name xx px, [a', .Name y p2], [], h =>
      unfold chk at h
      simp only [Bool.and_eq_true, decide_eq_true_eq, Bool.or_eq_true] at h
      obtain ⟨⟨⟨⟨⟨⟨⟨⟨⟨a1, a2⟩, a3⟩, a4⟩, a5⟩, a6⟩, a7⟩, a8⟩, a9⟩, b1⟩ := h
      exact snd_isi c a9 a1 a2 a3 a4 a6 a7 (by unfold tyOk; exact decide_eq_true a5) b1 (snd_e x c a8)
  | .lc el t it own, S, X, m, a, c, h => by
    cases a <;> first | exact (Bool.false_ne_true h).elim | skip
    rename_i elt gs scope pos
    match gs, h with
    | [⟨tg, iter, [], 0⟩], h =>
      unfold chk at h
      simp only [Bool.and_eq_true] at h
      obtain ⟨⟨⟨⟨⟨⟨a1, a2⟩, a3⟩, a4⟩, a5⟩, a6⟩, a7⟩ := h
      exact (snd_lc c (snd_i it (by decide) c a1) a2 a3 a4 a5 a7 fun b => snd_e el (ctx_blk c a2 b.s b.H b.C b.cl b.fp) a6).e
  | .lcif el t it cd own, S, X, m, a, c, h => by
    cases a <;> first | exact (Bool.false_ne_true h).elim | skip
    rename_i elt gs scope pos
    match gs, h with
    | [⟨tg, iter, [c'], 0⟩], h =>
      unfold chk at h
      simp only [Bool.and_eq_true] at h
      obtain ⟨⟨⟨⟨⟨⟨⟨a1, a2⟩, a3⟩, a4⟩, a5⟩, a6⟩, a8⟩, a7⟩ := h
      exact (snd_lcif c (snd_i it (by decide) c a1) a2 a3 a4 a5 a7 (fun b => snd_e el (ctx_blk c a2 b.s b.H b.C b.cl b.fp) a6) fun b => (snd_b cd (ctx_blk c a2 b.s b.H b.C b.cl b.fp) a8).b).e
theorem snd_b : ∀ (e : E) {S : Sta} {X : Cx} {a : Expr}, Ctx k S X → chkB S e a = true → SndBW k S X e a
  | .not x, S, X, a, c, h => by
    cases a <;> first | exact (Bool.false_ne_true h).elim | skip
    rename_i op a' pos
    cases op <;> first | exact (Bool.false_ne_true h).elim | skip
    exact b_not (snd_b x c h).b
  | .and x y, S, X, a, c, h => by
    cases a <;> first | exact (Bool.false_ne_true h).elim | skip
    rename_i op vs pos
    cases op <;> first | exact (Bool.false_ne_true h).elim | skip
    match vs, h with
    | [], h => exact (Bool.false_ne_true h).elim
    | [_], h => exact (Bool.false_ne_true h).elim
    | a' :: c' :: [], h =>
      have h := Bool.and_eq_true_iff.mp h
      exact b_and (snd_b x c h.1).b (b_one (snd_b y c h.2).b)
    | a' :: c' :: d' :: r, h =>
      have h := Bool.and_eq_true_iff.mp h
      exact b_and (snd_b x c h.1).b (snd_b y c h.2)
  | .or x y, S, X, a, c, h => by
    cases a <;> first | exact (Bool.false_ne_true h).elim | skip
    rename_i op vs pos
    cases op <;> first | exact (Bool.false_ne_true h).elim | skip
    match vs, h with
    | [], h => exact (Bool.false_ne_true h).elim
    | [_], h => exact (Bool.false_ne_true h).elim
    | a' :: c' :: [], h =>
      have h := Bool.and_eq_true_iff.mp h
      exact b_or (snd_b x c h.1).b (b_one (snd_b y c h.2).b)
    | a' :: c' :: d' :: r, h =>
      have h := Bool.and_eq_true_iff.mp h
      exact b_or (snd_b x c h.1).b (snd_b y c h.2)
  | .cmp o x y, S, X, a, c, h => by
    cases a <;> first | exact (Bool.false_ne_true h).elim | skip
    rename_i a' ops bs pos
    match ops, bs, h with
    | [], _, h => exact (Bool.false_ne_true h).elim
    | [_], [], h => exact (Bool.false_ne_true h).elim
    | [_], _ :: _ :: _, h => exact (Bool.false_ne_true h).elim
    | _ :: _ :: _, _, h => exact (Bool.false_ne_true h).elim
    | [o'], [b'], h =>
      have h := Bool.and_eq_true_iff.mp h
      have h1 := Bool.and_eq_true_iff.mp h.1
      exact b_cmp c h1.1 (snd_e x c h1.2) (snd_e y c h.2)
  | .chn o1 o2 x y z, S, X, a, c, h => by
    cases a <;> first | exact (Bool.false_ne_true h).elim | skip
    rename_i a' ops bs pos
    match ops, bs, h with
    | [], _, h => exact (Bool.false_ne_true h).elim
    | [_], _, h => exact (Bool.false_ne_true h).elim
    | _ :: _ :: _ :: _, _, h => exact (Bool.false_ne_true h).elim
    | [_, _], [], h => exact (Bool.false_ne_true h).elim
    | [_, _], [_], h => exact (Bool.false_ne_true h).elim
    | [_, _], _ :: _ :: _ :: _, h => exact (Bool.false_ne_true h).elim
    | [_, _], [_, _], h =>
      have h1 := Bool.and_eq_true_iff.mp h
      have h2 := Bool.and_eq_true_iff.mp h1.1
      have h3 := Bool.and_eq_true_iff.mp h2.1
      have h4 := Bool.and_eq_true_iff.mp h3.1
      exact b_chn c h4.1 h4.2 (snd_e x c h3.2) (snd_e y c h2.2) (snd_e z c h1.2)
  | .isN x, S, X, a, c, h => by
    cases a <;> first | exact (Bool.false_ne_true h).elim | skip
    rename_i a' ops bs pos
    match ops, bs, h with
    | [.Is], [.Constant .none _ _], h => exact b_isN (snd_e x c h)
  | .isNN x, S, X, a, c, h => by
    cases a <;> first | exact (Bool.false_ne_true h).elim | skip
    rename_i a' ops bs pos
    match ops, bs, h with
    | [.IsNot], [.Constant .none _ _], h => exact b_isNN (snd_e x c h)
  | .bl b, S, X, a, c, h => by
    cases a <;> first | exact (Bool.false_ne_true h).elim | skip
    rename_i v j pos
    cases v <;> first | exact (Bool.false_ne_true h).elim | skip
    obtain rfl := of_decide_eq_true h
    exact snd_tru (not_bool (by intro _ _ _ z; cases z)) (snd_c (by decide) pe_bl (fun _ => by unfold ev; rfl) fun _ _ => by unfold Rep; rfl) (fun env => by unfold tst ev; rfl) fun _ => rfl
  | .v i, S, X, a, c, h => by
    cases a <;> first | exact (Bool.false_ne_true h).elim | skip
    rename_i x pos
    refine snd_tru (not_bool (by intro _ _ _ z; cases z)) (snd_v c ?_) (fun env => ?_) fun _ => rfl
    · have h := Bool.and_eq_true_iff.mp h
      unfold chk
      rw [Bool.and_eq_true]
      refine ⟨h.1, ?_⟩
      have h2 := h.2
      split at h2
      · rename_i hk; first | rfl | (rw [hk]; rfl)
      · rename_i hk; first | rfl | (rw [hk]; rfl)
      · cases h2
    · unfold tst ev
      cases getE env i <;> rfl
  | .call f as, S, X, a, c, h => by
    cases a <;> first | exact (Bool.false_ne_true h).elim | skip
    rename_i fn args kw pos
    cases fn <;> first | exact (Bool.false_ne_true h).elim | skip
    cases kw <;> first | exact (Bool.false_ne_true h).elim | skip
    unfold chkB at h
    cases hF : S.P.fn f with
    | none => rw [hF] at h; exact (Bool.false_ne_true h).elim
    | some F =>
      rw [hF] at h
      have h1 := Bool.and_eq_true_iff.mp h
      have h2 := Bool.and_eq_true_iff.mp h1.1
      have h3 := Bool.and_eq_true_iff.mp h2.1
      have h4 := Bool.and_eq_true_iff.mp h3.1
      refine snd_tru (not_bool (by intro _ _ _ z; cases z)) (snd_call c hF (of_decide_eq_true h4.1) h4.2 (by simpa using h3.2) h2.2 (.inl (by decide)) h1.2 (snd_a as c h2.2)) (fun env => ?_) fun _ => rfl
      unfold tst ev
      cases evA (run S.P k) S.P.gl as env with
      | none => rfl
      | some p =>
        simp only [Option.bind_some]
        cases fillA as p.1 p.2 with
        | none => rfl
        | some ds =>
          simp only [Option.bind_some]
          cases run S.P k f ds with
          | none => rfl
          | some r =>
            simp only [Option.bind_some]
            split
            · rfl
            · cases outA as r.2 p.2 <;> rfl
  | .callT f g as, S, X, a, c, h => by
    cases a <;> first | exact (Bool.false_ne_true h).elim | skip
    rename_i fn args kw pos
    match fn, args, kw, h with
    | .Name x px, [.Call (.Name y p2) args' [] pos2], [], h =>
      unfold chkB at h
      cases hF : S.P.fn f with
      | none => rw [hF] at h; exact (Bool.false_ne_true h).elim
      | some F =>
        cases hG : S.P.fn g with
        | none => rw [hF, hG] at h; exact (Bool.false_ne_true h).elim
        | some G =>
          rw [hF, hG] at h
          simp only [Bool.and_eq_true, decide_eq_true_eq, Bool.not_eq_true', Bool.or_eq_true] at h
          obtain ⟨⟨⟨⟨⟨⟨⟨⟨⟨⟨⟨a1, a2⟩, a3⟩, a4⟩, a5⟩, a6⟩, a7⟩, a8⟩, a9⟩, b1⟩, b2⟩, b3⟩ := h
          refine snd_tru (not_bool (by intro _ _ _ z; cases z)) (snd_callT c hF a1 a2 a3 a4 hG a5 a6 a7 a8 a9 b1 b2 b3 (.inl (by decide)) (snd_a as c a9)) (fun env => ?_) fun _ => rfl
          unfold tst ev
          cases evA (run S.P k) S.P.gl as env with
          | none => rfl
          | some p =>
            simp only [Option.bind_some]
            cases fillA as p.1 p.2 with
            | none => rfl
            | some ds =>
              simp only [Option.bind_some]
              cases run S.P k g ds with
              | none => rfl
              | some r =>
                simp only [Option.bind_some]
                cases lstI r.1 with
                | none => rfl
                | some l =>
                  simp only [Option.bind_some]
                  cases run S.P k f [.lst l] <;> rfl
  | .callk f as es ks, S, X, a, c, h => by
    cases a <;> first | exact (Bool.false_ne_true h).elim | skip
    rename_i fn args kw pos
    cases fn <;> first | exact (Bool.false_ne_true h).elim | skip
    unfold chkB at h
    cases hF : S.P.fn f with
    | none => rw [hF] at h; exact (Bool.false_ne_true h).elim
    | some F =>
      rw [hF] at h
      simp only [Bool.and_eq_true, decide_eq_true_eq, Bool.not_eq_true', Bool.or_eq_true] at h
      obtain ⟨⟨⟨⟨⟨⟨⟨⟨⟨a1, a2⟩, a3⟩, a4⟩, a5⟩, a6⟩, a7⟩, a8⟩, a9⟩, b1⟩ := h
      refine snd_tru (not_bool (by intro _ _ _ z; cases z)) (snd_callk c hF a1 a2 a3 a4 a5 a6 a7 a8 a9 (.inl (by decide)) (snd_es as (by decide) c a8) (snd_k es c a9)) (fun env => ?_) fun _ => rfl
      unfold tst ev
      cases evL (run S.P k) S.P.gl as env with
      | none => rfl
      | some p =>
        simp only [Option.bind_some]
        cases evL (run S.P k) S.P.gl es p.2 with
        | none => rfl
        | some q =>
          simp only [Option.bind_some]
          cases permK (p.1 ++ q.1) ks with
          | none => rfl
          | some ds =>
            simp only [Option.bind_some]
            cases run S.P k f ds <;> rfl
  | .isB ng b x, S, X, a, c, h => by
    cases a <;> first | exact (Bool.false_ne_true h).elim | skip
    rename_i a' ops bs pos
    match ops, bs, h with
    | [o], [.Constant (.bool b') _ _], h =>
      have h1 := Bool.and_eq_true_iff.mp h
      have h2 := Bool.and_eq_true_iff.mp h1.1
      obtain rfl := of_decide_eq_true h2.2
      exact b_isB h2.1 (snd_e x c h1.2)
  | .bi b es, S, X, a, c, h => by
    cases a <;> first | exact (Bool.false_ne_true h).elim | skip
    rename_i fn args kw pos
    cases fn <;> first | exact (Bool.false_ne_true h).elim | skip
    cases kw <;> first | exact (Bool.false_ne_true h).elim | skip
    unfold chkB at h
    simp only [Bool.and_eq_true, decide_eq_true_eq, Bool.or_eq_true] at h
    obtain ⟨⟨⟨⟨⟨a1, a2⟩, a3⟩, a4⟩, a5⟩, a6⟩ := h
    refine snd_tru (not_bool (by intro _ _ _ z; cases z)) (snd_bi c a1 a2 (by
      split at a3
      · rename_i hb; rw [if_pos hb]; exact a3
      · rename_i hb; rw [if_neg hb]; exact a3) a5 a6 (.inl (by decide)) (snd_es es (by decide) c a4)) (fun env => ?_) fun _ => rfl
    unfold tst ev
    cases evL (run S.P k) S.P.gl es env with
    | none => rfl
    | some p =>
      simp only [Option.bind_some]
      cases biF b p.1 <;> rfl
  | .isi ty x, S, X, a, c, h => by
    cases a <;> first | exact (Bool.false_ne_true h).elim | skip
    rename_i fn args kw pos
    match fn, args, kw, h with
    | .Name xx px, [a', .Name y p2], [], h =>
      unfold chkB at h
      simp only [Bool.and_eq_true, decide_eq_true_eq, Bool.or_eq_true] at h
      obtain ⟨⟨⟨⟨⟨⟨⟨⟨a1, a2⟩, a3⟩, a4⟩, a5⟩, a6⟩, a7⟩, a8⟩, b1⟩ := h
      refine snd_tru (not_bool (by intro _ _ _ z; cases z)) (snd_isi c (by decide) a1 a2 a3 a4 a6 a7 (by unfold tyOk; exact decide_eq_true a5) b1 (snd_e x c a8)) (fun env => ?_) fun _ => rfl
      rw [show ev (run S.P k) S.P.gl (.isi ty x) env = (ev (run S.P k) S.P.gl x env).bind fun p => (isiF ty p.1).map fun d => (d, p.2) from by conv => lhs; unfold ev]
      rw [show tst (run S.P k) S.P.gl (.isi ty x) env = (ev (run S.P k) S.P.gl x env).bind fun p => (isiF ty p.1).bind fun d => (truF d).map fun k => (k, p.2) from by conv => lhs; unfold tst]
      cases ev (run S.P k) S.P.gl x env with
      | none => rfl
      | some p =>
        simp only [Option.bind_some]
        cases isiF ty p.1 <;> rfl
  | .ix x i, S, X, a, c, h => by
    cases a <;> first | exact (Bool.false_ne_true h).elim | skip
    rename_i a' i' pos
    have h := Bool.and_eq_true_iff.mp h
    have h1 := Bool.and_eq_true_iff.mp h.1
    refine snd_tru (not_bool (by intro _ _ _ z; cases z)) (snd_ix (by decide) h.2 (snd_e x c h1.1) (snd_e i c h1.2)) (fun env => ?_) fun _ => rfl
    rw [show ev (run S.P k) S.P.gl (.ix x i) env = (ev (run S.P k) S.P.gl x env).bind fun p => (ev (run S.P k) S.P.gl i p.2).bind fun q => (ixF p.1 q.1).map fun d => (d, q.2) from by conv => lhs; unfold ev]
    rw [show tst (run S.P k) S.P.gl (.ix x i) env = (ev (run S.P k) S.P.gl x env).bind fun p => (ev (run S.P k) S.P.gl i p.2).bind fun q => (ixF p.1 q.1).bind fun d => (truF d).map fun k => (k, q.2) from by conv => lhs; unfold tst]
    cases ev (run S.P k) S.P.gl x env with
    | none => rfl
    | some p =>
      simp only [Option.bind_some]
      cases ev (run S.P k) S.P.gl i p.2 with
      | none => rfl
      | some q =>
        simp only [Option.bind_some]
        cases ixF p.1 q.1 <;> rfl
  | .int i, S, X, a, c, h => by cases a <;> exact (Bool.false_ne_true h).elim
  | .str i, S, X, a, c, h => by cases a <;> exact (Bool.false_ne_true h).elim
  | .non, S, X, a, c, h => by cases a <;> exact (Bool.false_ne_true h).elim
  | .dic0, S, X, a, c, h => by cases a <;> exact (Bool.false_ne_true h).elim
  | .dic1 _ _, S, X, a, c, h => by cases a <;> exact (Bool.false_ne_true h).elim
  | .g i, S, X, a, c, h => by cases a <;> exact (Bool.false_ne_true h).elim
  | .tup i, S, X, a, c, h => by cases a <;> exact (Bool.false_ne_true h).elim
  | .lst i, S, X, a, c, h => by cases a <;> exact (Bool.false_ne_true h).elim
  | .op _ _ _, S, X, a, c, h => by cases a <;> exact (Bool.false_ne_true h).elim
  | .neg _, S, X, a, c, h => by cases a <;> exact (Bool.false_ne_true h).elim
  | .ife _ _ _, S, X, a, c, h => by cases a <;> exact (Bool.false_ne_true h).elim
  | .sl _ _ _, S, X, a, c, h => by cases a <;> exact (Bool.false_ne_true h).elim
  | .rev _, S, X, a, c, h => by cases a <;> exact (Bool.false_ne_true h).elim
  | .lc _ _ _ _, S, X, a, c, h => by cases a <;> exact (Bool.false_ne_true h).elim
  | .lcif _ _ _ _ _, S, X, a, c, h => by cases a <;> exact (Bool.false_ne_true h).elim
theorem snd_es : ∀ (es : EL) {S : Sta} {X : Cx} {m : Md} {as : List Expr}, m ≠ .fr → Ctx k S X → chkL S m es as = true → SndL k S X m es as
  | .nil, S, X, m, as, hm, c, h => by
    cases as with
    | nil => exact snd_l_nil
    | cons _ _ => exact (Bool.false_ne_true h).elim
  | .cons e r, S, X, m, as, hm, c, h => by
    cases as with
    | nil => exact (Bool.false_ne_true h).elim
    | cons a as =>
      have h := Bool.and_eq_true_iff.mp h
      have h1 := Bool.and_eq_true_iff.mp h.1
      exact snd_l_cons hm h1.2 (snd_e e c h1.1) (snd_es r hm c h.2)
theorem snd_k : ∀ (es : EL) {S : Sta} {X : Cx} {kws : List Keyword}, Ctx k S X → chkL S .str es (kws.map (·.value)) = true → KwOk k S X es kws
  | .nil, S, X, kws, c, h => by
    cases kws with
    | nil => exact .nil
    | cons _ _ => exact (Bool.false_ne_true h).elim
  | .cons e r, S, X, kws, c, h => by
    cases kws with
    | nil => exact (Bool.false_ne_true h).elim
    | cons q kws =>
      have h := Bool.and_eq_true_iff.mp h
      have h1 := Bool.and_eq_true_iff.mp h.1
      exact .cons (snd_e e c h1.1) (snd_k r c h.2)
theorem snd_o : ∀ (e : EO) {S : Sta} {X : Cx} {a : Option Expr}, Ctx k S X → chkO S e a = true → SndO k S X e a
  | .no, S, X, a, c, h => by
    cases a with
    | none => exact snd_o_no
    | some _ => exact (Bool.false_ne_true h).elim
  | .so e, S, X, a, c, h => by
    cases a with
    | none => exact (Bool.false_ne_true h).elim
    | some a => exact snd_o_so (snd_e e c h)
theorem snd_a : ∀ (as : AL) {S : Sta} {X : Cx} {pk : List Kind} {args : List Expr}, Ctx k S X → chkA S pk as args = true → ∃ t, PA X args t ∧ AOk k S X as t
  | .nil, S, X, pk, args, c, h => by
    cases pk with
    | nil => cases args with
      | nil => exact ⟨_, a_nil⟩
      | cons _ _ => exact (Bool.false_ne_true h).elim
    | cons p _ => cases p <;> exact (Bool.false_ne_true h).elim
  | .val e r, S, X, pk, args, c, h => by
    cases pk with
    | nil => exact (Bool.false_ne_true h).elim
    | cons p pk =>
      cases args with
      | nil => cases p <;> exact (Bool.false_ne_true h).elim
      | cons a args =>
        cases p <;> first | exact (Bool.false_ne_true h).elim | skip
        have h := Bool.and_eq_true_iff.mp h
        have h1 := Bool.and_eq_true_iff.mp h.1
        exact a_val h1.2 (snd_e e c h1.1) (snd_a r c h.2)
  | .bor i r, S, X, pk, args, c, h => by
    cases pk with
    | nil => exact (Bool.false_ne_true h).elim
    | cons p pk =>
      cases args with
      | nil => cases p <;> exact (Bool.false_ne_true h).elim
      | cons a args =>
        cases p <;> first | exact (Bool.false_ne_true h).elim | skip
        have h := Bool.and_eq_true_iff.mp h
        have h1 := Bool.and_eq_true_iff.mp h.1
        have h2 := h1.1
        cases a <;> first | exact (Bool.false_ne_true h2).elim | skip
        obtain ⟨t, p, q, _⟩ := a_bor c h2 (.inl (of_decide_eq_true h1.2)) (snd_a r c h.2)
        exact ⟨t, p, q⟩
  | .io i r, S, X, pk, args, c, h => by
    cases pk with
    | nil => exact (Bool.false_ne_true h).elim
    | cons p pk =>
      cases args with
      | nil => cases p <;> exact (Bool.false_ne_true h).elim
      | cons a args =>
        cases p <;> first | exact (Bool.false_ne_true h).elim | skip
        have h := Bool.and_eq_true_iff.mp h
        have h0 := Bool.and_eq_true_iff.mp h.1
        have h1 := Bool.and_eq_true_iff.mp h0.1
        have h2 := h1.1
        cases a <;> first | exact (Bool.false_ne_true h2).elim | skip
        obtain ⟨t, p, _, q⟩ := a_bor c h2 (.inr (of_decide_eq_true h1.2)) (snd_a r c h.2)
        exact ⟨t, p, q⟩
theorem snd_i : ∀ (it : I) {S : Sta} {X : Cx} {m : Md} {tg a : Expr}, m ≠ .fr → Ctx k S X → chkI S m it tg a = true → SndI k S X m it tg a
  | .seq e, S, X, m, tg, a, hm, c, h => i_seq hm (snd_e e c h)
  | .rng1 e, S, X, m, tg, a, hm, c, h => by
    match a, h with
    | .Call (.Name x _) [a] [] _, h =>
      unfold chkI at h
      simp only [Bool.and_eq_true, decide_eq_true_eq] at h
      obtain ⟨⟨⟨⟨a1, a2⟩, a3⟩, a4⟩, a5⟩ := h
      exact i_rng1 c a1 a2 a3 a5 (snd_e e c a4)
  | .rng2 e f, S, X, m, tg, a, hm, c, h => by
    match a, h with
    | .Call (.Name x _) [a, b] [] _, h =>
      unfold chkI at h
      simp only [Bool.and_eq_true, decide_eq_true_eq] at h
      obtain ⟨⟨⟨⟨⟨⟨a1, a2⟩, a3⟩, a4⟩, a5⟩, a6⟩, a7⟩ := h
      exact i_rng2 c a1 a2 a3 a6 a7 (snd_e e c a4) (snd_e f c a5)
  | .rng3 e f g, S, X, m, tg, a, hm, c, h => by
    match a, h with
    | .Call (.Name x _) [a, b, d] [] _, h =>
      unfold chkI at h
      simp only [Bool.and_eq_true, decide_eq_true_eq] at h
      obtain ⟨⟨⟨⟨⟨⟨⟨⟨a1, a2⟩, a3⟩, a4⟩, a5⟩, a6⟩, a7⟩, a8⟩, a9⟩ := h
      exact i_rng3 c a1 a2 a3 a7 a8 a9 (snd_e e c a4) (snd_e f c a5) (snd_e g c a6)
  | .enz e f, S, X, m, tg, a, hm, c, h => by
    match a, h with
    | .Call (.Name x _) [.Call (.Name y _) [a, b] [] _] [] _, h =>
      unfold chkI at h
      simp only [Bool.and_eq_true, decide_eq_true_eq] at h
      obtain ⟨⟨⟨⟨⟨⟨⟨⟨⟨⟨a0, a1⟩, a2⟩, a3⟩, b1⟩, b2⟩, b3⟩, a4⟩, a5⟩, a6⟩, a7⟩ := h
      exact i_enz c hm a0 a1 a2 a3 b1 b2 b3 a6 a7 (snd_e e c a4) (snd_e f c a5)
  | .enum e, S, X, m, tg, a, hm, c, h => by
    match a, h with
    | .Call (.Name x _) [a] [] _, h =>
      unfold chkI at h
      simp only [Bool.and_eq_true, decide_eq_true_eq] at h
      obtain ⟨⟨⟨⟨⟨a0, a1⟩, a2⟩, a3⟩, a4⟩, a5⟩ := h
      exact i_enum c hm a0 a1 a2 a3 a5 (snd_e e c a4)
  | .zip e f, S, X, m, tg, a, hm, c, h => by
    match a, h with
    | .Call (.Name x _) [a, b] [] _, h =>
      unfold chkI at h
      simp only [Bool.and_eq_true, decide_eq_true_eq] at h
      obtain ⟨⟨⟨⟨⟨⟨⟨a0, a1⟩, a2⟩, a3⟩, a4⟩, a5⟩, a6⟩, a7⟩ := h
      exact i_zip c hm a0 a1 a2 a3 a6 a7 (snd_e e c a4) (snd_e f c a5)
  | .rev e, S, X, m, tg, a, hm, c, h => by
    match a, h with
    | .Call (.Name x _) [a] [] _, h =>
      unfold chkI at h
      simp only [Bool.and_eq_true, decide_eq_true_eq] at h
      obtain ⟨⟨⟨⟨a1, a2⟩, a3⟩, a4⟩, a5⟩ := h
      exact i_rev c hm a1 a2 a3 a5 (snd_e e c a4)
  | .revr e, S, X, m, tg, a, hm, c, h => by
    match a, h with
    | .Call (.Name x _) [.Call (.Name y _) [a] [] _] [] _, h =>
      unfold chkI at h
      simp only [Bool.and_eq_true, decide_eq_true_eq] at h
      obtain ⟨⟨⟨⟨⟨⟨⟨a1, a2⟩, a3⟩, a4⟩, a5⟩, a6⟩, a7⟩, a8⟩ := h
      exact i_revr c a1 a2 a3 a4 a5 a6 a8 (snd_e e c a7)
end
/-- the same, for a store -/
theorem snd_cmpr : ∀ (e : E) {S : Sta} {X : Cx} {m : Md} {a : Expr}, Ctx k S X → (match e with | .lc _ _ _ _ => true | .lcif _ _ _ _ _ => true | _ => false) = true → chk S m e a = true → SndC k S X m e a
  | .lc el t it own, S, X, m, a, c, _, h => by
    cases a <;> first | exact (Bool.false_ne_true h).elim | skip
    rename_i elt gs scope pos
    match gs, h with
    | [⟨tg, iter, [], 0⟩], h =>
      unfold chk at h
      simp only [Bool.and_eq_true] at h
      obtain ⟨⟨⟨⟨⟨⟨a1, a2⟩, a3⟩, a4⟩, a5⟩, a6⟩, a7⟩ := h
      exact snd_lc c (snd_i it (by decide) c a1) a2 a3 a4 a5 a7 fun b => snd_e el (ctx_blk c a2 b.s b.H b.C b.cl b.fp) a6
  | .lcif el t it cd own, S, X, m, a, c, _, h => by
    cases a <;> first | exact (Bool.false_ne_true h).elim | skip
    rename_i elt gs scope pos
    match gs, h with
    | [⟨tg, iter, [c'], 0⟩], h =>
      unfold chk at h
      simp only [Bool.and_eq_true] at h
      obtain ⟨⟨⟨⟨⟨⟨⟨a1, a2⟩, a3⟩, a4⟩, a5⟩, a6⟩, a8⟩, a7⟩ := h
      exact snd_lcif c (snd_i it (by decide) c a1) a2 a3 a4 a5 a7 (fun b => snd_e el (ctx_blk c a2 b.s b.H b.C b.cl b.fp) a6) fun b => (snd_b cd (ctx_blk c a2 b.s b.H b.C b.cl b.fp) a8).b
  | .v _, _, _, _, _, _, h, _ | .int _, _, _, _, _, _, h, _ | .bl _, _, _, _, _, _, h, _ | .str _, _, _, _, _, _, h, _ | .non, _, _, _, _, _, h, _ | .dic0, _, _, _, _, _, h, _ | .dic1 _ _, _, _, _, _, _, h, _ | .g _, _, _, _, _, _, h, _ | .tup _, _, _, _, _, _, h, _ | .lst _, _, _, _, _, _, h, _ | .op _ _ _, _, _, _, _, _, h, _
  | .neg _, _, _, _, _, _, h, _ | .not _, _, _, _, _, _, h, _ | .and _ _, _, _, _, _, _, h, _ | .or _ _, _, _, _, _, _, h, _ | .cmp _ _ _, _, _, _, _, _, h, _ | .chn _ _ _ _ _, _, _, _, _, _, h, _ | .isN _, _, _, _, _, _, h, _ | .isNN _, _, _, _, _, _, h, _
  | .ife _ _ _, _, _, _, _, _, h, _ | .ix _ _, _, _, _, _, _, h, _ | .sl _ _ _, _, _, _, _, _, h, _ | .rev _, _, _, _, _, _, h, _ | .call _ _, _, _, _, _, _, h, _ | .callT _ _ _, _, _, _, _, _, h, _ | .callk _ _ _ _, _, _, _, _, _, h, _ | .isB _ _ _, _, _, _, _, _, h, _ | .bi _ _, _, _, _, _, _, h, _ | .isi _ _, _, _, _, _, _, h, _ => by cases h
end
end LS
set_option maxHeartbeats 1000000
/-! LsS: what an expression leaves in the slots; new lists taken in; owned lists edited. -/
namespace LS
open PySem PySem.Spec PyProof.Rows L2

section
variable {kd : List Kind}
mutual
def ioE (kd : List Kind) : E → Bool
  | .v _ | .int _ | .bl _ | .str _ | .non | .g _ | .dic0 | .dic1 _ _ => true
  | .tup es | .lst es => ioL kd es
  | .op _ a b => ioE kd a && ioE kd b
  | .neg a | .not a => ioE kd a
  | .and a b | .or a b => ioE kd a && ioE kd b
  | .cmp _ a b => ioE kd a && ioE kd b
  | .chn _ _ a b c => ioE kd a && ioE kd b && ioE kd c
  | .isN a | .isNN a => ioE kd a
  | .ife c a b => ioE kd c && ioE kd a && ioE kd b
  | .ix a i => ioE kd a && ioE kd i
  | .sl a l h => ioE kd a && ioO kd l && ioO kd h
  | .rev a => ioE kd a
  | .call _ as => ioA kd as
  | .callT _ _ as => ioA kd as
  | .callk _ as es _ => ioL kd as && ioL kd es
  | .isB _ _ a => ioE kd a
  | .bi _ es => ioL kd es
  | .isi _ a => ioE kd a
  | .lc el t it own => ioI kd it && ioE kd el && (T.slots t).all (fun i => own.contains i)
  | .lcif el t it c own => ioI kd it && ioE kd el && ioE kd c && (T.slots t).all (fun i => own.contains i)
def ioL (kd : List Kind) : EL → Bool
  | .nil => true
  | .cons e r => ioE kd e && ioL kd r
def ioO (kd : List Kind) : EO → Bool
  | .no => true
  | .so e => ioE kd e
def ioA (kd : List Kind) : AL → Bool
  | .nil => true
  | .val e r => ioE kd e && ioA kd r
  | .bor _ r => ioA kd r
  | .io i r => decide (kd[i]? = some .io) && ioA kd r
def ioI (kd : List Kind) : I → Bool
  | .seq e => ioE kd e
  | .rng1 e => ioE kd e
  | .rng2 a b => ioE kd a && ioE kd b
  | .rng3 a b c => ioE kd a && ioE kd b && ioE kd c
  | .enz a b => ioE kd a && ioE kd b
  | .enum e => ioE kd e
  | .zip a b => ioE kd a && ioE kd b
  | .rev e => ioE kd e
  | .revr e => ioE kd e
end
def Same (kd : List Kind) (env env' : EnD) : Prop := env'.length = env.length ∧ ∀ i : Nat, kd[i]? ≠ some .io → env'[i]? = env[i]?
theorem Same.refl {env : EnD} : Same kd env env := ⟨rfl, fun _ _ => rfl⟩
theorem Same.trans {env e1 e2 : EnD} (a : Same kd env e1) (b : Same kd e1 e2) : Same kd env e2 := ⟨b.1.trans a.1, fun i h => (b.2 i h).trans (a.2 i h)⟩
mutual
theorem asgT_off : ∀ {t : T} {d : D} {env env' : EnD}, asgT t d env = some env' → env'.length = env.length ∧ ∀ i : Nat, i ∉ T.slots t → env'[i]? = env[i]?
  | .n j, d, env, env', h => by
    unfold asgT at h
    cases h
    exact ⟨List.length_set, fun i hi => List.getElem?_set_ne fun e => hi (by unfold T.slots; rw [e]; exact List.mem_singleton.mpr rfl)⟩
  | .t l, d, env, env', h => by
    cases d with
    | tup ds =>
      unfold asgT at h
      split at h
      · unfold T.slots
        exact asgL_off h
      · cases h
    | _ => unfold asgT at h; cases h
theorem asgL_off : ∀ {l : List T} {ds : List D} {env env' : EnD}, asgL l ds env = some env' → env'.length = env.length ∧ ∀ i : Nat, i ∉ T.slotsL l → env'[i]? = env[i]?
  | [], [], env, env', h => by unfold asgL at h; cases h; exact ⟨rfl, fun _ _ => rfl⟩
  | t :: ts, d :: ds, env, env', h => by
    unfold asgL at h
    obtain ⟨e1, h1, h2⟩ := bindS h
    obtain ⟨a1, a2⟩ := asgT_off h1
    obtain ⟨b1, b2⟩ := asgL_off h2
    refine ⟨b1.trans a1, fun i hi => ?_⟩
    unfold T.slotsL at hi
    exact (b2 i fun z => hi (List.mem_append_right _ z)).trans (a2 i fun z => hi (List.mem_append_left _ z))
  | [], _ :: _, _, _, h => by unfold asgL at h; cases h
  | _ :: _, [], _, _, h => by unfold asgL at h; cases h
end
/-- a run of a comprehension, but for its own slots -/
def SameX (kd : List Kind) (own : List Nat) (env env' : EnD) : Prop := env'.length = env.length ∧ ∀ i : Nat, kd[i]? ≠ some .io → i ∉ own → env'[i]? = env[i]?
theorem lcif_same {elt : EnD → Option (D × EnD)} {c : EnD → Option (Bool × EnD)} {t : T} {own : List Nat} (he : ∀ {e d e'}, elt e = some (d, e') → Same kd e e') (hc : ∀ {e b e'}, c e = some (b, e') → Same kd e e') (ht : ∀ i ∈ T.slots t, i ∈ own) :
    ∀ {l : List D} {env : EnD} {r : List D} {env' : EnD}, lcifL elt c t own l env = some (r, env') → SameX kd own env env'
  | [], env, r, env', h => by unfold lcifL at h; cases h; exact ⟨rfl, fun _ _ _ => rfl⟩
  | d :: l, env, r, env', h => by
    unfold lcifL at h
    obtain ⟨e1, h1, h⟩ := bindS h
    obtain ⟨⟨b, e2⟩, h2, h⟩ := bindS h
    obtain ⟨a1, a2⟩ := asgT_off h1
    have s1 : SameX kd own env e2 := ⟨(hc h2).1.trans (a1.trans wipeE_len), fun i hi hn => ((hc h2).2 i hi).trans ((a2 i fun z => hn (ht i z)).trans (wipeE_ne hn))⟩
    cases b with
    | false =>
      simp only [Bool.false_eq_true, if_false] at h
      have s2 := lcif_same he hc ht h
      exact ⟨s2.1.trans s1.1, fun i hi hn => (s2.2 i hi hn).trans (s1.2 i hi hn)⟩
    | true =>
      simp only [if_true] at h
      obtain ⟨⟨y, e3⟩, h3, h⟩ := bindS h
      obtain ⟨⟨r2, e4⟩, h4, h5⟩ := Option.map_eq_some_iff.mp h
      cases h5
      have s2 := lcif_same he hc ht h4
      have s3 := he h3
      exact ⟨s2.1.trans (s3.1.trans s1.1), fun i hi hn => (s2.2 i hi hn).trans ((s3.2 i hi).trans (s1.2 i hi hn))⟩
theorem back_same {own : List Nat} {env e : EnD} (h : SameX kd own env e) : Same kd env (backE e env own) := by
  refine ⟨backE_len.trans h.1, fun i hi => ?_⟩
  by_cases hn : i ∈ own
  · have core : ∀ {own : List Nat}, i ∈ own → (backE e env own)[i]? = env[i]? := by
      intro own
      induction own with
      | nil => intro z; cases z
      | cons j r ih =>
        intro z
        unfold backE
        by_cases e1 : j = i
        · subst e1
          by_cases hl : j < env.length
          · rw [List.getElem?_set_self (by rw [backE_len, h.1]; exact hl)]
            simp [hl]
          · rw [List.getElem?_eq_none (by rw [List.length_set, backE_len, h.1]; omega), List.getElem?_eq_none (by omega)]
        · rw [List.getElem?_set_ne e1]
          exact ih ((List.mem_cons.mp z).resolve_left fun q => e1 q.symm)
    exact core hn
  · rw [backE_ne hn]
    exact h.2 i hi hn
theorem out_same : ∀ {as : AL} {os : List D} {env env' : EnD}, ioA kd as = true → outA as os env = some env' → Same kd env env'
  | .nil, os, env, env', _, h => by
    cases os with
    | nil => unfold outA at h; cases h; exact .refl
    | cons _ _ => unfold outA at h; cases h
  | .val e r, os, env, env', hi, h => by
    unfold outA at h
    unfold ioA at hi
    exact out_same (Bool.and_eq_true_iff.mp hi).2 h
  | .bor i r, os, env, env', hi, h => by
    unfold outA at h
    unfold ioA at hi
    exact out_same hi h
  | .io i r, os, env, env', hi, h => by
    cases os with
    | nil => unfold outA at h; cases h
    | cons o os =>
      unfold outA at h
      unfold ioA at hi
      have hi := Bool.and_eq_true_iff.mp hi
      have s := out_same hi.2 h
      refine ⟨s.1.trans List.length_set, fun j hj => (s.2 j hj).trans (List.getElem?_set_ne fun e => hj ?_)⟩
      rw [← e]
      exact of_decide_eq_true hi.1
variable {C : CallT} {G : Nat → Option D}
mutual
theorem ev_same : ∀ {e : E} {env : EnD} {d : D} {env' : EnD}, ioE kd e = true → ev C G e env = some (d, env') → Same kd env env'
  | .v i, env, d, env', hi, h => by
    unfold ev at h
    obtain ⟨_, _, h2⟩ := Option.map_eq_some_iff.mp h
    cases h2; exact .refl
  | .int _, env, d, env', hi, h => by unfold ev at h; cases h; exact .refl
  | .bl _, env, d, env', hi, h => by unfold ev at h; cases h; exact .refl
  | .str _, env, d, env', hi, h => by unfold ev at h; cases h; exact .refl
  | .non, env, d, env', hi, h => by unfold ev at h; cases h; exact .refl
  | .dic0, env, d, env', hi, h => by unfold ev at h; cases h; exact .refl
  | .dic1 _ _, env, d, env', hi, h => by unfold ev at h; cases h; exact .refl
  | .g n, env, d, env', hi, h => by
    unfold ev at h
    obtain ⟨_, _, h2⟩ := Option.map_eq_some_iff.mp h
    cases h2; exact .refl
  | .tup es, env, d, env', hi, h => by
    unfold ev at h
    unfold ioE at hi
    obtain ⟨⟨_, _⟩, h1, h2⟩ := Option.map_eq_some_iff.mp h
    cases h2; exact evL_same hi h1
  | .lst es, env, d, env', hi, h => by
    unfold ev at h
    unfold ioE at hi
    obtain ⟨⟨_, _⟩, h1, h2⟩ := Option.map_eq_some_iff.mp h
    cases h2; exact evL_same hi h1
  | .op o a b, env, d, env', hi, h => by
    unfold ev at h
    unfold ioE at hi
    have hi := Bool.and_eq_true_iff.mp hi
    obtain ⟨⟨d1, e1⟩, h1, h⟩ := bindS h
    obtain ⟨⟨d2, e2⟩, h2, h⟩ := bindS h
    obtain ⟨_, _, h3⟩ := Option.map_eq_some_iff.mp h
    cases h3; exact (ev_same hi.1 h1).trans (ev_same hi.2 h2)
  | .neg a, env, d, env', hi, h => by
    unfold ev at h
    unfold ioE at hi
    obtain ⟨⟨d1, e1⟩, h1, h⟩ := bindS h
    cases d1 <;> first | (cases h; done) | (cases h; exact ev_same hi h1)
  | .not a, env, d, env', hi, h => by
    unfold ev at h
    unfold ioE at hi
    obtain ⟨⟨d1, e1⟩, h1, h⟩ := bindS h
    obtain ⟨_, _, h3⟩ := Option.map_eq_some_iff.mp h
    cases h3; exact ev_same hi h1
  | .and a b, env, d, env', hi, h => by
    unfold ev at h
    unfold ioE at hi
    have hi := Bool.and_eq_true_iff.mp hi
    obtain ⟨⟨d1, e1⟩, h1, h⟩ := bindS h
    obtain ⟨c, h2, h⟩ := bindS h
    split at h
    · exact (ev_same hi.1 h1).trans (ev_same hi.2 h)
    · cases h; exact ev_same hi.1 h1
  | .or a b, env, d, env', hi, h => by
    unfold ev at h
    unfold ioE at hi
    have hi := Bool.and_eq_true_iff.mp hi
    obtain ⟨⟨d1, e1⟩, h1, h⟩ := bindS h
    obtain ⟨c, h2, h⟩ := bindS h
    split at h
    · cases h; exact ev_same hi.1 h1
    · exact (ev_same hi.1 h1).trans (ev_same hi.2 h)
  | .cmp o a b, env, d, env', hi, h => by
    unfold ev at h
    unfold ioE at hi
    have hi := Bool.and_eq_true_iff.mp hi
    obtain ⟨⟨d1, e1⟩, h1, h⟩ := bindS h
    obtain ⟨⟨d2, e2⟩, h2, h⟩ := bindS h
    obtain ⟨_, _, h3⟩ := Option.map_eq_some_iff.mp h
    cases h3; exact (ev_same hi.1 h1).trans (ev_same hi.2 h2)
  | .chn o1 o2 a b c, env, d, env', hi, h => by
    unfold ev at h
    unfold ioE at hi
    have hi := Bool.and_eq_true_iff.mp hi
    have hi1 := Bool.and_eq_true_iff.mp hi.1
    obtain ⟨⟨d1, e1⟩, h1, h⟩ := bindS h
    obtain ⟨⟨d2, e2⟩, h2, h⟩ := bindS h
    obtain ⟨d3, h3, h⟩ := bindS h
    obtain ⟨k, h4, h⟩ := bindS h
    have s := (ev_same hi1.1 h1).trans (ev_same hi1.2 h2)
    split at h
    · obtain ⟨⟨d5, e5⟩, h5, h⟩ := bindS h
      obtain ⟨_, _, h6⟩ := Option.map_eq_some_iff.mp h
      cases h6; exact s.trans (ev_same hi.2 h5)
    · cases h; exact s
  | .isN a, env, d, env', hi, h => by
    unfold ev at h
    unfold ioE at hi
    obtain ⟨⟨d1, e1⟩, h1, h3⟩ := Option.map_eq_some_iff.mp h
    cases h3; exact ev_same hi h1
  | .isNN a, env, d, env', hi, h => by
    unfold ev at h
    unfold ioE at hi
    obtain ⟨⟨d1, e1⟩, h1, h3⟩ := Option.map_eq_some_iff.mp h
    cases h3; exact ev_same hi h1
  | .ife c a b, env, d, env', hi, h => by
    unfold ev at h
    unfold ioE at hi
    have hi := Bool.and_eq_true_iff.mp hi
    have hi1 := Bool.and_eq_true_iff.mp hi.1
    obtain ⟨⟨k, e1⟩, h1, h⟩ := bindS h
    have s := tst_same hi1.1 h1
    split at h
    · exact s.trans (ev_same hi1.2 h)
    · exact s.trans (ev_same hi.2 h)
  | .ix a i, env, d, env', hi, h => by
    unfold ev at h
    unfold ioE at hi
    have hi := Bool.and_eq_true_iff.mp hi
    obtain ⟨⟨d1, e1⟩, h1, h⟩ := bindS h
    obtain ⟨⟨d2, e2⟩, h2, h⟩ := bindS h
    obtain ⟨_, _, h3⟩ := Option.map_eq_some_iff.mp h
    cases h3; exact (ev_same hi.1 h1).trans (ev_same hi.2 h2)
  | .sl a lo hi', env, d, env', hi, h => by
    unfold ev at h
    unfold ioE at hi
    have hi := Bool.and_eq_true_iff.mp hi
    have hi1 := Bool.and_eq_true_iff.mp hi.1
    obtain ⟨⟨d1, e1⟩, h1, h⟩ := bindS h
    obtain ⟨⟨d2, e2⟩, h2, h⟩ := bindS h
    obtain ⟨⟨d3, e3⟩, h3, h⟩ := bindS h
    obtain ⟨_, _, h4⟩ := Option.map_eq_some_iff.mp h
    cases h4; exact (ev_same hi1.1 h1).trans ((evO_same hi1.2 h2).trans (evO_same hi.2 h3))
  | .rev a, env, d, env', hi, h => by
    unfold ev at h
    unfold ioE at hi
    obtain ⟨⟨d1, e1⟩, h1, h⟩ := bindS h
    obtain ⟨_, _, h3⟩ := Option.map_eq_some_iff.mp h
    cases h3; exact ev_same hi h1
  | .call f as, env, d, env', hi, h => by
    unfold ev at h
    unfold ioE at hi
    obtain ⟨⟨d1, e1⟩, h1, h⟩ := bindS h
    obtain ⟨ds, h2, h⟩ := bindS h
    obtain ⟨r, h3, h⟩ := bindS h
    split at h
    · cases h
    · obtain ⟨e4, h4, h5⟩ := Option.map_eq_some_iff.mp h
      cases h5; exact (evA_same hi h1).trans (out_same hi h4)
  | .callT f g as, env, d, env', hi, h => by
    unfold ev at h
    unfold ioE at hi
    obtain ⟨⟨d1, e1⟩, h1, h⟩ := bindS h
    obtain ⟨ds, h2, h⟩ := bindS h
    obtain ⟨r, h3, h⟩ := bindS h
    obtain ⟨l, h4, h⟩ := bindS h
    obtain ⟨q, h5, h6⟩ := Option.map_eq_some_iff.mp h
    cases h6; exact evA_same hi h1
  | .callk f as es ks, env, d, env', hi, h => by
    unfold ev at h
    unfold ioE at hi
    have hi := Bool.and_eq_true_iff.mp hi
    obtain ⟨⟨d1, e1⟩, h1, h⟩ := bindS h
    obtain ⟨⟨d2, e2⟩, h2, h⟩ := bindS h
    obtain ⟨ds, h3, h⟩ := bindS h
    obtain ⟨q, h5, h6⟩ := Option.map_eq_some_iff.mp h
    cases h6; exact (evL_same hi.1 h1).trans (evL_same hi.2 h2)
  | .isB ng b a, env, d, env', hi, h => by
    unfold ev at h
    unfold ioE at hi
    obtain ⟨⟨d1, e1⟩, h1, h⟩ := bindS h
    obtain ⟨q, h5, h6⟩ := Option.map_eq_some_iff.mp h
    cases h6; exact ev_same hi h1
  | .bi b es, env, d, env', hi, h => by
    unfold ev at h
    unfold ioE at hi
    obtain ⟨⟨d1, e1⟩, h1, h⟩ := bindS h
    obtain ⟨q, h5, h6⟩ := Option.map_eq_some_iff.mp h
    cases h6; exact evL_same hi h1
  | .isi ty a, env, d, env', hi, h => by
    unfold ev at h
    unfold ioE at hi
    obtain ⟨⟨d1, e1⟩, h1, h⟩ := bindS h
    obtain ⟨q, h5, h6⟩ := Option.map_eq_some_iff.mp h
    cases h6; exact ev_same hi h1
  | .lc el t it own, env, d, env', hi, h => by
    unfold ev at h
    unfold ioE at hi
    have hi := Bool.and_eq_true_iff.mp hi
    have hi1 := Bool.and_eq_true_iff.mp hi.1
    obtain ⟨⟨d1, e1⟩, h1, h⟩ := bindS h
    obtain ⟨l, h2, h⟩ := bindS h
    obtain ⟨⟨q, e5⟩, h5, h6⟩ := Option.map_eq_some_iff.mp h
    cases h6
    rw [lcL_if] at h5
    exact (evI_same hi1.1 h1).trans (back_same (lcif_same (fun {e d e'} z => ev_same hi1.2 z) (fun {e b e'} z => by cases z; exact .refl) (slots_own hi.2) h5))
  | .lcif el t it c own, env, d, env', hi, h => by
    unfold ev at h
    unfold ioE at hi
    have hi := Bool.and_eq_true_iff.mp hi
    have hi1 := Bool.and_eq_true_iff.mp hi.1
    have hi2 := Bool.and_eq_true_iff.mp hi1.1
    obtain ⟨⟨d1, e1⟩, h1, h⟩ := bindS h
    obtain ⟨l, h2, h⟩ := bindS h
    obtain ⟨⟨q, e5⟩, h5, h6⟩ := Option.map_eq_some_iff.mp h
    cases h6
    exact (evI_same hi2.1 h1).trans (back_same (lcif_same (fun {e d e'} z => ev_same hi2.2 z) (fun {e b e'} z => tst_same hi1.2 z) (slots_own hi.2) h5))
theorem tst_same : ∀ {e : E} {env : EnD} {b : Bool} {env' : EnD}, ioE kd e = true → tst C G e env = some (b, env') → Same kd env env'
  | .v i, env, d, env', hi, h => by
    unfold tst at h
    obtain ⟨_, _, h⟩ := bindS h
    obtain ⟨_, _, h2⟩ := Option.map_eq_some_iff.mp h
    cases h2; exact .refl
  | .bl _, env, d, env', hi, h => by unfold tst at h; cases h; exact .refl
  | .not a, env, d, env', hi, h => by
    unfold tst at h
    unfold ioE at hi
    obtain ⟨⟨d1, e1⟩, h1, h3⟩ := Option.map_eq_some_iff.mp h
    cases h3; exact tst_same hi h1
  | .and a b, env, d, env', hi, h => by
    unfold tst at h
    unfold ioE at hi
    have hi := Bool.and_eq_true_iff.mp hi
    obtain ⟨⟨d1, e1⟩, h1, h⟩ := bindS h
    split at h
    · exact (tst_same hi.1 h1).trans (tst_same hi.2 h)
    · cases h; exact tst_same hi.1 h1
  | .or a b, env, d, env', hi, h => by
    unfold tst at h
    unfold ioE at hi
    have hi := Bool.and_eq_true_iff.mp hi
    obtain ⟨⟨d1, e1⟩, h1, h⟩ := bindS h
    split at h
    · cases h; exact tst_same hi.1 h1
    · exact (tst_same hi.1 h1).trans (tst_same hi.2 h)
  | .cmp o a b, env, d, env', hi, h => by
    unfold tst at h
    unfold ioE at hi
    have hi := Bool.and_eq_true_iff.mp hi
    obtain ⟨⟨d1, e1⟩, h1, h⟩ := bindS h
    obtain ⟨⟨d2, e2⟩, h2, h⟩ := bindS h
    obtain ⟨_, _, h⟩ := bindS h
    obtain ⟨_, _, h3⟩ := Option.map_eq_some_iff.mp h
    cases h3; exact (ev_same hi.1 h1).trans (ev_same hi.2 h2)
  | .chn o1 o2 a b c, env, d, env', hi, h => by
    unfold tst at h
    unfold ioE at hi
    have hi := Bool.and_eq_true_iff.mp hi
    have hi1 := Bool.and_eq_true_iff.mp hi.1
    obtain ⟨⟨d1, e1⟩, h1, h⟩ := bindS h
    obtain ⟨⟨d2, e2⟩, h2, h⟩ := bindS h
    obtain ⟨d3, h3, h⟩ := bindS h
    obtain ⟨k, h4, h⟩ := bindS h
    have s := (ev_same hi1.1 h1).trans (ev_same hi1.2 h2)
    split at h
    · obtain ⟨⟨d5, e5⟩, h5, h⟩ := bindS h
      obtain ⟨_, _, h⟩ := bindS h
      obtain ⟨_, _, h6⟩ := Option.map_eq_some_iff.mp h
      cases h6; exact s.trans (ev_same hi.2 h5)
    · cases h; exact s
  | .isN a, env, d, env', hi, h => by
    unfold tst at h
    unfold ioE at hi
    obtain ⟨⟨d1, e1⟩, h1, h3⟩ := Option.map_eq_some_iff.mp h
    cases h3; exact ev_same hi h1
  | .isNN a, env, d, env', hi, h => by
    unfold tst at h
    unfold ioE at hi
    obtain ⟨⟨d1, e1⟩, h1, h3⟩ := Option.map_eq_some_iff.mp h
    cases h3; exact ev_same hi h1
  | .ix a i, env, d, env', hi, h => by
    unfold tst at h
    unfold ioE at hi
    have hi := Bool.and_eq_true_iff.mp hi
    obtain ⟨⟨d1, e1⟩, h1, h⟩ := bindS h
    obtain ⟨⟨d2, e2⟩, h2, h⟩ := bindS h
    obtain ⟨_, _, h⟩ := bindS h
    obtain ⟨_, _, h3⟩ := Option.map_eq_some_iff.mp h
    cases h3; exact (ev_same hi.1 h1).trans (ev_same hi.2 h2)
  | .call f as, env, d, env', hi, h => by
    unfold tst at h
    unfold ioE at hi
    obtain ⟨⟨d1, e1⟩, h1, h⟩ := bindS h
    obtain ⟨ds, h2, h⟩ := bindS h
    obtain ⟨r, h3, h⟩ := bindS h
    split at h
    · cases h
    · obtain ⟨e4, h4, h⟩ := bindS h
      obtain ⟨_, _, h5⟩ := Option.map_eq_some_iff.mp h
      cases h5; exact (evA_same hi h1).trans (out_same hi h4)
  | .callT f g as, env, d, env', hi, h => by
    unfold tst at h
    unfold ioE at hi
    obtain ⟨⟨d1, e1⟩, h1, h⟩ := bindS h
    obtain ⟨ds, h2, h⟩ := bindS h
    obtain ⟨r, h3, h⟩ := bindS h
    obtain ⟨l, h4, h⟩ := bindS h
    obtain ⟨q, h5, h⟩ := bindS h
    obtain ⟨_, _, h6⟩ := Option.map_eq_some_iff.mp h
    cases h6; exact evA_same hi h1
  | .callk f as es ks, env, d, env', hi, h => by
    unfold tst at h
    unfold ioE at hi
    have hi := Bool.and_eq_true_iff.mp hi
    obtain ⟨⟨d1, e1⟩, h1, h⟩ := bindS h
    obtain ⟨⟨d2, e2⟩, h2, h⟩ := bindS h
    obtain ⟨ds, h3, h⟩ := bindS h
    obtain ⟨q, h5, h⟩ := bindS h
    obtain ⟨_, _, h6⟩ := Option.map_eq_some_iff.mp h
    cases h6; exact (evL_same hi.1 h1).trans (evL_same hi.2 h2)
  | .isB ng b a, env, d, env', hi, h => by
    unfold tst at h
    unfold ioE at hi
    obtain ⟨⟨d1, e1⟩, h1, h⟩ := bindS h
    obtain ⟨q, h5, h6⟩ := Option.map_eq_some_iff.mp h
    cases h6; exact ev_same hi h1
  | .bi b es, env, d, env', hi, h => by
    unfold tst at h
    unfold ioE at hi
    obtain ⟨⟨d1, e1⟩, h1, h⟩ := bindS h
    obtain ⟨q, h5, h⟩ := bindS h
    obtain ⟨_, _, h6⟩ := Option.map_eq_some_iff.mp h
    cases h6; exact evL_same hi h1
  | .isi ty a, env, d, env', hi, h => by
    unfold tst at h
    unfold ioE at hi
    obtain ⟨⟨d1, e1⟩, h1, h⟩ := bindS h
    obtain ⟨q, h5, h⟩ := bindS h
    obtain ⟨_, _, h6⟩ := Option.map_eq_some_iff.mp h
    cases h6; exact ev_same hi h1
  | .int _, env, d, env', hi, h => by unfold tst at h; cases h
  | .str _, env, d, env', hi, h => by unfold tst at h; cases h
  | .non, env, d, env', hi, h => by unfold tst at h; cases h
  | .dic0, env, d, env', hi, h => by unfold tst at h; cases h
  | .dic1 _ _, env, d, env', hi, h => by unfold tst at h; cases h
  | .g _, env, d, env', hi, h => by unfold tst at h; cases h
  | .tup _, env, d, env', hi, h => by unfold tst at h; cases h
  | .lst _, env, d, env', hi, h => by unfold tst at h; cases h
  | .op _ _ _, env, d, env', hi, h => by unfold tst at h; cases h
  | .neg _, env, d, env', hi, h => by unfold tst at h; cases h
  | .ife _ _ _, env, d, env', hi, h => by unfold tst at h; cases h
  | .sl _ _ _, env, d, env', hi, h => by unfold tst at h; cases h
  | .rev _, env, d, env', hi, h => by unfold tst at h; cases h
  | .lc _ _ _ _, env, d, env', hi, h => by unfold tst at h; cases h
  | .lcif _ _ _ _ _, env, d, env', hi, h => by unfold tst at h; cases h
theorem evL_same : ∀ {es : EL} {env : EnD} {ds : List D} {env' : EnD}, ioL kd es = true → evL C G es env = some (ds, env') → Same kd env env'
  | .nil, env, ds, env', hi, h => by unfold evL at h; cases h; exact .refl
  | .cons e r, env, ds, env', hi, h => by
    unfold evL at h
    unfold ioL at hi
    have hi := Bool.and_eq_true_iff.mp hi
    obtain ⟨⟨d1, e1⟩, h1, h⟩ := bindS h
    obtain ⟨⟨q, e5⟩, h5, h6⟩ := Option.map_eq_some_iff.mp h
    cases h6; exact (ev_same hi.1 h1).trans (evL_same hi.2 h5)
theorem evO_same : ∀ {e : EO} {env : EnD} {o : Option Int} {env' : EnD}, ioO kd e = true → evO C G e env = some (o, env') → Same kd env env'
  | .no, env, ds, env', hi, h => by unfold evO at h; cases h; exact .refl
  | .so e, env, ds, env', hi, h => by
    unfold evO at h
    unfold ioO at hi
    obtain ⟨⟨d1, e1⟩, h1, h⟩ := bindS h
    cases d1 <;> first | (cases h; done) | (cases h; exact ev_same hi h1)
theorem evA_same : ∀ {as : AL} {env : EnD} {ds : List D} {env' : EnD}, ioA kd as = true → evA C G as env = some (ds, env') → Same kd env env'
  | .nil, env, ds, env', hi, h => by unfold evA at h; cases h; exact .refl
  | .val e r, env, ds, env', hi, h => by
    unfold evA at h
    unfold ioA at hi
    have hi := Bool.and_eq_true_iff.mp hi
    obtain ⟨⟨d1, e1⟩, h1, h⟩ := bindS h
    obtain ⟨⟨q, e5⟩, h5, h6⟩ := Option.map_eq_some_iff.mp h
    cases h6; exact (ev_same hi.1 h1).trans (evA_same hi.2 h5)
  | .bor i r, env, ds, env', hi, h => by
    unfold evA at h
    unfold ioA at hi
    obtain ⟨_, h1, h⟩ := bindS h
    obtain ⟨⟨q, e5⟩, h5, h6⟩ := Option.map_eq_some_iff.mp h
    cases h6; exact evA_same hi h5
  | .io i r, env, ds, env', hi, h => by
    unfold evA at h
    unfold ioA at hi
    have hi := Bool.and_eq_true_iff.mp hi
    obtain ⟨_, h1, h⟩ := bindS h
    obtain ⟨⟨q, e5⟩, h5, h6⟩ := Option.map_eq_some_iff.mp h
    cases h6; exact evA_same hi.2 h5
theorem evI_same : ∀ {it : I} {env : EnD} {ds : List D} {env' : EnD}, ioI kd it = true → evI C G it env = some (ds, env') → Same kd env env'
  | .seq e, env, ds, env', hi, h => by
    unfold evI at h
    unfold ioI at hi
    obtain ⟨⟨d1, e1⟩, h1, h⟩ := bindS h
    obtain ⟨_, _, h3⟩ := Option.map_eq_some_iff.mp h
    cases h3; exact ev_same hi h1
  | .rng1 e, env, ds, env', hi, h => by
    unfold evI at h
    unfold ioI at hi
    obtain ⟨⟨d1, e1⟩, h1, h⟩ := bindS h
    cases d1 <;> first | (cases h; done) | skip
    dsimp only at h
    split at h
    · cases h; exact ev_same hi h1
    · cases h
  | .rng2 a b, env, ds, env', hi, h => by
    unfold evI at h
    unfold ioI at hi
    have hi := Bool.and_eq_true_iff.mp hi
    obtain ⟨⟨d1, e1⟩, h1, h⟩ := bindS h
    obtain ⟨⟨d2, e2⟩, h2, h⟩ := bindS h
    cases d1 <;> first | (cases h; done) | skip
    cases d2 <;> first | (cases h; done) | skip
    dsimp only at h
    split at h
    · cases h; exact (ev_same hi.1 h1).trans (ev_same hi.2 h2)
    · cases h
  | .rng3 a b c, env, ds, env', hi, h => by
    unfold evI at h
    unfold ioI at hi
    have hi := Bool.and_eq_true_iff.mp hi
    have hj := Bool.and_eq_true_iff.mp hi.1
    obtain ⟨⟨d1, e1⟩, h1, h⟩ := bindS h
    obtain ⟨⟨d2, e2⟩, h2, h⟩ := bindS h
    obtain ⟨⟨d3, e3⟩, h3, h⟩ := bindS h
    cases d1 <;> first | (cases h; done) | skip
    cases d2 <;> first | (cases h; done) | skip
    cases d3 <;> first | (cases h; done) | skip
    dsimp only at h
    split at h
    · cases h; exact ((ev_same hj.1 h1).trans (ev_same hj.2 h2)).trans (ev_same hi.2 h3)
    · cases h
  | .enz a b, env, ds, env', hi, h => by
    unfold evI at h
    unfold ioI at hi
    have hi := Bool.and_eq_true_iff.mp hi
    obtain ⟨⟨d1, e1⟩, h1, h⟩ := bindS h
    obtain ⟨⟨d2, e2⟩, h2, h⟩ := bindS h
    have s := (ev_same hi.1 h1).trans (ev_same hi.2 h2)
    cases d1 <;> first | (cases h; done) | skip
    cases d2 <;> first | (cases h; done) | (cases h; exact s)
  | .enum e, env, ds, env', hi, h => by
    unfold evI at h
    unfold ioI at hi
    obtain ⟨⟨d1, e1⟩, h1, h⟩ := bindS h
    obtain ⟨_, _, h3⟩ := Option.map_eq_some_iff.mp h
    cases h3; exact ev_same hi h1
  | .zip a b, env, ds, env', hi, h => by
    unfold evI at h
    unfold ioI at hi
    have hi := Bool.and_eq_true_iff.mp hi
    obtain ⟨⟨d1, e1⟩, h1, h⟩ := bindS h
    obtain ⟨⟨d2, e2⟩, h2, h⟩ := bindS h
    have s := (ev_same hi.1 h1).trans (ev_same hi.2 h2)
    cases d1 <;> first | (cases h; done) | skip
    · cases d2 <;> first | (cases h; done) | (cases h; exact s)
    · cases d2 <;> first | (cases h; done) | (cases h; exact s)
  | .rev e, env, ds, env', hi, h => by
    unfold evI at h
    unfold ioI at hi
    obtain ⟨⟨d1, e1⟩, h1, h⟩ := bindS h
    obtain ⟨_, _, h3⟩ := Option.map_eq_some_iff.mp h
    cases h3; exact ev_same hi h1
  | .revr e, env, ds, env', hi, h => by
    unfold evI at h
    unfold ioI at hi
    obtain ⟨⟨d1, e1⟩, h1, h⟩ := bindS h
    cases d1 <;> first | (cases h; done) | skip
    dsimp only at h
    split at h
    · cases h; exact ev_same hi h1
    · cases h
end
end

/-! ### new lists taken in, owned lists edited -/
section
variable {K : PySem.W.Frag} {kd : List Kind} {O0 O1 : AS} {H0 H H1 H' : Hp} {env env' : EnD} {σ : L2.St}
/-- behind an expression: its new list is owned by nobody else -/
theorem SR.absorb (s : SR K kd O0 H0 env σ H) (s' : SR K kd O0 H0 env' σ H') (kp : Kp kd σ H H') (sm : Same kd env env') {a : Addr} {xs : List V} (n : H a = none) (hH : H' a = some (.lst xs)) : SR K kd (more O0 a) (upd H0 a (.lst xs)) env' σ H' := by
  have n0 := s.h0 n
  have st : Stays (Own kd O0 σ) (Own kd (more O0 a) σ) H H' := fun b o h hn => ⟨kp b o h fun z => hn (io_own z), fun z => (own_more.mp z).elim hn fun e => by subst e; rw [n] at h; cases h⟩
  have niv : ∀ {i : Nat}, kd[i]? = some .val ∨ kd[i]? = some .loc → kd[i]? ≠ some .io := fun h z => by rcases h with h | h <;> (rw [h] at z; cases z)
  refine ⟨s'.le, s'.ls, fun b o h hn => ?_, fun b hb => ?_, fun i d h1 h2 => ?_, fun i d h1 h2 => ?_, fun i d h1 h2 => ?_, s'.dj, s'.ow⟩
  · by_cases e : b = a
    · subst e; rw [upd_same] at h; cases h; exact hH
    · rw [upd_ne e] at h; exact s'.fr b o h hn
  · by_cases e : b = a
    · subst e; exact ⟨xs, upd_same⟩
    · obtain ⟨ys, z⟩ := s'.o0 b (hb.resolve_right e)
      exact ⟨ys, by rw [upd_ne e]; exact z⟩
  · rw [sm.2 i (niv (.inl h1))] at h2
    obtain ⟨v, e, r⟩ := s.vl i d h1 h2
    exact ⟨v, e, r.mono st⟩
  · rw [sm.2 i (niv (.inr h1))] at h2
    obtain ⟨b, l, ys, e, h3, h4, h5, r⟩ := s.lc i d h1 h2
    have hb : b ≠ a := fun z => by subst z; rw [n] at h4; cases h4
    refine ⟨b, l, ys, e, h3, kp b _ h4 fun ⟨j, hj, ha⟩ => ?_, by rw [upd_ne hb]; exact h5, r.mono st⟩
    have := s.dj i j b (.inl h1) (.inr hj) h3 ha
    subst this
    rw [h1] at hj
    cases hj
  · exact s'.io i d h1 h2
/-- what a value waits for, ahead of its slot -/
def Pend (K : PySem.W.Frag) (kd : List Kind) (kn : Kind) (O : AS) (H0 : Hp) (O1 : AS) (H01 : Hp) (σ : L2.St) (d : D) (v : V) (H : Hp) : Prop := match kn with
  | .val => O1 = O ∧ H01 = H0 ∧ Rep K (Own kd O1 σ) H d v
  | _ => ∃ a l xs, d = .lst l ∧ v = .ref a ∧ O1 = more O a ∧ H01 = upd H0 a (.lst xs) ∧ H a = some (.lst xs) ∧ H0 a = none ∧ ¬ O a ∧ Reps K (Own kd O1 σ) H l xs ∧ ∀ j, isOwn kd j → ¬ At σ j a
theorem own_seti {i : Nat} {a : Addr} (hi : isOwn kd i) {b : Addr} (h : Own kd O0 (σ.set i (some (.ref a))) b) : Own kd O0 σ b ∨ b = a := by
  rcases h with h | ⟨j, hj, ha⟩
  · exact .inl (.inl h)
  · by_cases e : j = i
    · subst e
      unfold At at ha
      by_cases hl : j < σ.length
      · rw [List.getElem?_set_self hl] at ha; cases ha; exact .inr rfl
      · rw [List.getElem?_eq_none (by rw [List.length_set]; omega)] at ha; cases ha
    · exact .inl (.inr ⟨j, hj, (at_set e).mp ha⟩)
theorem SR.settle {kn : Kind} {i : Nat} {d : D} {v : V} {H01 : Hp} (hk : kd[i]? = some kn) (hio : kn ≠ .io) (s : SR K kd O1 H01 env σ H) (p : Pend K kd kn O0 H0 O1 H01 σ d v H) : SR K kd O0 H0 (env.set i (some d)) (σ.set i (some v)) H ∧ ∀ b, Own kd O0 (σ.set i (some v)) b → Own kd O1 σ b := by
  have hl := kd_lt hk
  cases kn with
  | io => exact absurd rfl hio
  | val =>
    obtain ⟨rfl, rfl, r⟩ := p
    exact ⟨s.setv hk fun d' e => by cases e; exact ⟨v, rfl, r⟩, fun b hb => by rw [own_set hk] at hb; exact hb⟩
  | loc =>
    obtain ⟨a, l, xs, rfl, rfl, rfl, rfl, hH, n0, no, r, na⟩ := p
    have hsub : ∀ b, Own kd O0 (σ.set i (some (.ref a))) b → Own kd (more O0 a) σ b := fun b hb => own_more.mpr (own_seti (.inl hk) hb)
    have st : Stays (Own kd (more O0 a) σ) (Own kd O0 (σ.set i (some (.ref a)))) H H := fun b o h hn => ⟨h, fun z => hn (hsub b z)⟩
    have ioeq : ∀ b, Io kd σ b → Io kd (σ.set i (some (.ref a))) b := fun b ⟨j, hj, ha⟩ => ⟨j, hj, (at_set fun e => by subst e; rw [hk] at hj; cases hj).mpr ha⟩
    refine ⟨⟨by rw [List.length_set]; exact s.le, by rw [List.length_set]; exact s.ls, fun b o h hn => ?_, fun b hb => ?_, fun j d h1 h2 => ?_, fun j d h1 h2 => ?_, fun j d h1 h2 => ?_, fun j j2 b h1 h2 h3 h4 => ?_, fun j v h1 h2 => ?_⟩, hsub⟩
    · have hb : b ≠ a := fun z => by subst z; rw [n0] at h; cases h
      exact s.fr b o (by rw [upd_ne hb]; exact h) fun z => hn (ioeq b z)
    · obtain ⟨ys, z⟩ := s.o0 b (.inl hb)
      by_cases e : b = a
      · subst e
        exact absurd hb no
      · rw [upd_ne e] at z; exact ⟨ys, z⟩
    · have e : j ≠ i := fun e => by subst e; rw [hk] at h1; cases h1
      rw [List.getElem?_set_ne (fun z => e z.symm)] at h2
      obtain ⟨v, e2, r2⟩ := s.vl j d h1 h2
      exact ⟨v, by rw [List.getElem?_set_ne (fun z => e z.symm)]; exact e2, r2.mono st⟩
    · by_cases e : j = i
      · subst e
        rw [List.getElem?_set_self (by rw [s.le]; exact hl)] at h2
        cases h2
        exact ⟨a, l, xs, rfl, List.getElem?_set_self (by rw [s.ls]; exact hl), hH, n0, r.mono st⟩
      · rw [List.getElem?_set_ne (fun z => e z.symm)] at h2
        obtain ⟨b, m, ys, e1, e2, e3, e4, r2⟩ := s.lc j d h1 h2
        have hb : b ≠ a := fun z => by subst z; exact na j (.inl h1) e2
        rw [upd_ne hb] at e4
        exact ⟨b, m, ys, e1, (at_set e).mpr e2, e3, e4, r2.mono st⟩
    · have e : j ≠ i := fun e => by subst e; rw [hk] at h1; cases h1
      rw [List.getElem?_set_ne (fun z => e z.symm)] at h2
      obtain ⟨b, ns, e1, e2, e3⟩ := s.io j d h1 h2
      exact ⟨b, ns, e1, (at_set e).mpr e2, e3⟩
    · have self : ∀ {b}, At (σ.set i (some (.ref a))) i b → b = a := fun {b} z => by
        unfold At at z
        rw [List.getElem?_set_self (by rw [s.ls]; exact hl)] at z
        cases z
        rfl
      by_cases e : j = i
      · by_cases e' : j2 = i
        · exact e.trans e'.symm
        · subst e
          have := self h3
          subst this
          exact absurd ((at_set e').mp h4) (na j2 h2)
      · by_cases e' : j2 = i
        · subst e'
          have := self h4
          subst this
          exact absurd ((at_set e).mp h3) (na j h1)
        · exact s.dj j j2 b h1 h2 ((at_set e).mp h3) ((at_set e').mp h4)
    · by_cases e : j = i
      · subst e
        exact ⟨_, List.getElem?_set_self (by rw [s.le]; exact hl)⟩
      · rw [List.getElem?_set_ne (fun z => e z.symm)] at h2 ⊢
        exact s.ow j v h1 h2
/-- a slot's own list is given other items -/
theorem SR.edit (s : SR K kd O0 H0 env σ H) {i : Nat} {a : Addr} {m : List D} {ys : List V} (hk : kd[i]? = some .loc) {xs : List V} (ha : At σ i a) (hH : H a = some (.lst xs)) (n0 : H0 a = none) (r : Reps K (Own kd O0 σ) H m ys) : SR K kd O0 H0 (env.set i (some (.lst m))) σ (upd H a (.lst ys)) := by
  have hl := kd_lt hk
  have st : Stays (Own kd O0 σ) (Own kd O0 σ) H (upd H a (.lst ys)) := fun b o h hn => ⟨by rw [upd_ne fun z => hn (by subst z; exact .inr ⟨i, .inl hk, ha⟩)]; exact h, hn⟩
  refine ⟨by rw [List.length_set]; exact s.le, s.ls, fun b o h hn => ?_, s.o0, fun j d h1 h2 => ?_, fun j d h1 h2 => ?_, fun j d h1 h2 => ?_, s.dj, fun j v h1 h2 => ?_⟩
  · rw [upd_ne fun z => by subst z; rw [n0] at h; cases h]
    exact s.fr b o h hn
  · have e : j ≠ i := fun e => by subst e; rw [hk] at h1; cases h1
    rw [List.getElem?_set_ne (fun z => e z.symm)] at h2
    obtain ⟨v, e2, r2⟩ := s.vl j d h1 h2
    exact ⟨v, e2, r2.mono st⟩
  · by_cases e : j = i
    · subst e
      rw [List.getElem?_set_self (by rw [s.le]; exact hl)] at h2
      cases h2
      exact ⟨a, m, ys, rfl, ha, upd_same, n0, r.mono st⟩
    · rw [List.getElem?_set_ne (fun z => e z.symm)] at h2
      obtain ⟨b, l, zs, e1, e2, e3, e4, r2⟩ := s.lc j d h1 h2
      have hb : b ≠ a := fun z => by subst z; exact e (s.dj j i b (.inl h1) (.inl hk) e2 ha)
      exact ⟨b, l, zs, e1, e2, by rw [upd_ne hb]; exact e3, e4, r2.mono st⟩
  · have e : j ≠ i := fun e => by subst e; rw [hk] at h1; cases h1
    rw [List.getElem?_set_ne (fun z => e z.symm)] at h2
    obtain ⟨b, ns, e1, e2, e3⟩ := s.io j d h1 h2
    have hb : b ≠ a := fun z => by subst z; exact e (s.dj j i b (.inr h1) (.inl hk) e2 ha)
    exact ⟨b, ns, e1, e2, by rw [upd_ne hb]; exact e3⟩
  · by_cases e : j = i
    · subst e
      exact ⟨_, List.getElem?_set_self (by rw [s.le]; exact hl)⟩
    · rw [List.getElem?_set_ne (fun z => e z.symm)]
      exact s.ow j v h1 h2
theorem SR.editI (s : SR K kd O0 H0 env σ H) {i : Nat} {a : Addr} {ns : List Int} (hk : kd[i]? = some .io) {xs : List V} (ha : At σ i a) (hH : H a = some (.lst xs)) : SR K kd O0 H0 (env.set i (some (.lst (ns.map D.int)))) σ (upd H a (.lst (ns.map V.int))) := by
  have hl := kd_lt hk
  have st : Stays (Own kd O0 σ) (Own kd O0 σ) H (upd H a (.lst (ns.map V.int))) := fun b o h hn => ⟨by rw [upd_ne fun z => hn (by subst z; exact .inr ⟨i, .inr hk, ha⟩)]; exact h, hn⟩
  refine ⟨by rw [List.length_set]; exact s.le, s.ls, fun b o h hn => ?_, s.o0, fun j d h1 h2 => ?_, fun j d h1 h2 => ?_, fun j d h1 h2 => ?_, s.dj, fun j v h1 h2 => ?_⟩
  · rw [upd_ne fun z => hn (by subst z; exact ⟨i, hk, ha⟩)]
    exact s.fr b o h hn
  · have e : j ≠ i := fun e => by subst e; rw [hk] at h1; cases h1
    rw [List.getElem?_set_ne (fun z => e z.symm)] at h2
    obtain ⟨v, e2, r2⟩ := s.vl j d h1 h2
    exact ⟨v, e2, r2.mono st⟩
  · have e : j ≠ i := fun e => by subst e; rw [hk] at h1; cases h1
    rw [List.getElem?_set_ne (fun z => e z.symm)] at h2
    obtain ⟨b, l, zs, e1, e2, e3, e4, r2⟩ := s.lc j d h1 h2
    have hb : b ≠ a := fun z => by subst z; exact e (s.dj j i b (.inl h1) (.inr hk) e2 ha)
    exact ⟨b, l, zs, e1, e2, by rw [upd_ne hb]; exact e3, e4, r2.mono st⟩
  · by_cases e : j = i
    · subst e
      rw [List.getElem?_set_self (by rw [s.le]; exact hl)] at h2
      cases h2
      exact ⟨a, ns, rfl, ha, upd_same⟩
    · rw [List.getElem?_set_ne (fun z => e z.symm)] at h2
      obtain ⟨b, ms, e1, e2, e3⟩ := s.io j d h1 h2
      have hb : b ≠ a := fun z => by subst z; exact e (s.dj j i b (.inr h1) (.inr hk) e2 ha)
      exact ⟨b, ms, e1, e2, by rw [upd_ne hb]; exact e3⟩
  · by_cases e : j = i
    · subst e
      exact ⟨_, List.getElem?_set_self (by rw [s.le]; exact hl)⟩
    · rw [List.getElem?_set_ne (fun z => e z.symm)]
      exact s.ow j v h1 h2
end
end LS
set_option maxHeartbeats 1000000
/-! LsT: statements, one by one. -/
namespace LS
open PySem PySem.Spec PyProof.Rows L2

/-! ### stores -/
def compScope : Expr → Option Scope
  | .ListComp _ _ s _ => some s
  | .SetComp _ _ s _ => some s
  | .DictComp _ _ _ s _ => some s
  | _ => none
def swV (sc : Scope) (tg e : Expr) : Bool := match compScope e, tg with
  | some s, .Name t pos => (sc.names.lookup t == some .local) && (pos.line == e.pos.line) && !(s.names.any fun (n, k) => n == t && (k == .local || k == .cell))
  | _, _ => false
theorem swV_ok {env : Env} {tg e : Expr} {l : Nat} (hk : env.scope.kind = .function) : swapsWith e (some tg) l env = pure (swV env.scope tg e) := by
  have hb : env.blockKind = .function := by unfold Env.blockKind; rw [hk]; rfl
  unfold swapsWith swV
  cases e <;> first | rfl | skip
  all_goals
    cases tg <;> first | rfl | skip
    simp only [compScope, hb, Env.kindOf]
    rfl
theorem swN_ok {env : Env} {e : Expr} {l : Nat} (h : compScope e = none) : swapsWith e none l env = pure false := by
  unfold swapsWith
  cases e <;> first | rfl | (cases h)
def starE : Expr → Bool
  | .Starred _ _ => true
  | _ => false
/-- a plain local name -/
def plainE (sc : Scope) : Expr → Bool
  | .Name x _ => sc.names.lookup x == some .local
  | _ => false
/-- the stores go in the written order -/
def swNone (sc : Scope) (tg e : Expr) : Bool := match tg, e with
  | .Tuple ts _ _, .Tuple vs _ _ => !(ts.length == 2 || ts.length == 3) || vs.length != ts.length || vs.all (foldedForSure 8) || ts.any (fun t => !plainE sc t)
  | .List _ _, .Tuple _ _ _ => false
  | _, _ => true
theorem fm_lt {f : Expr → Option Str} {p : Expr → Bool} (hf : ∀ t, p t = true → f t = none) : ∀ {ts : List Expr}, ts.any p = true → (ts.filterMap f).length < ts.length
  | t :: r, h => by
    rw [List.any_cons, Bool.or_eq_true] at h
    rw [List.filterMap_cons]
    rcases h with h | h
    · rw [hf t h]
      exact Nat.lt_succ_of_le (List.length_filterMap_le f r)
    · have := fm_lt hf h
      cases f t with
      | none => exact Nat.lt_succ_of_lt this
      | some y => rw [List.length_cons, List.length_cons]; omega
theorem swNone_ok {env : Env} {tg e : Expr} (h : swNone env.scope tg e = true) : swappedStores [tg] e env = pure none := by
  unfold swappedStores
  cases tg <;> first | rfl | skip
  · cases e <;> first | rfl | (exact (Bool.false_ne_true h).elim)
  · cases e <;> first | rfl | skip
    rename_i ts k p vs k2 p2
    have h : (!(ts.length == 2 || ts.length == 3) || vs.length != ts.length || vs.all (foldedForSure 8) || ts.any (fun t => !plainE env.scope t)) = true := h
    simp only [pure_bind]
    by_cases c1 : (!(ts.length == 2 || ts.length == 3) || vs.length != ts.length || env.blockKind != .function) = true
    · rw [if_pos c1]
    · rw [if_neg c1]
      have c1f := Bool.eq_false_iff.mpr c1
      rw [Bool.or_eq_false_iff] at c1f
      rw [c1f.1, Bool.false_or, Bool.or_eq_true] at h
      rcases h with hf | hp
      · simp only [hf, if_true]
        split
        · rfl
        · split <;> rfl
      · split
        · rfl
        · refine if_pos ?_
          have hl : ∀ {f : Expr → Option Str}, (∀ t, (!plainE env.scope t) = true → f t = none) → ((ts.filterMap f).length != ts.length) = true := fun hf => by
            have := fm_lt hf hp
            exact bne_iff_ne.mpr (Nat.ne_of_lt this)
          rw [Bool.or_eq_true]
          refine .inl (hl fun t ht => ?_)
          cases t <;> first | rfl | skip
          rename_i x px
          have hx : (env.scope.names.lookup x == some NameKind.local) = false := by
            have ht : (!(env.scope.names.lookup x == some NameKind.local)) = true := ht
            rwa [Bool.not_eq_true'] at ht
          show (if (env.kindOf x == some NameKind.local && _) = true then some x else none) = none
          unfold Env.kindOf
          rw [hx]
          rfl
/-- two or three plain names take plain values: stored from the right -/
def swSome (sc : Scope) (tg e : Expr) : Bool := match tg, e with
  | .Tuple [.Name x px, .Name y py] _ _, .Tuple vs _ _ => (vs.length == 2) && (sc.names.lookup x == some .local) && (sc.names.lookup y == some .local) && (py.line == px.line) && !(x == y) && !(y == x) && !(vs.any starE) && !(vs.all (foldedForSure 8)) && !(vs.all (constantsAlone 8))
  | .Tuple [.Name x px, .Name y py, .Name z pz] _ _, .Tuple vs _ _ => (vs.length == 3) && (sc.names.lookup x == some .local) && (sc.names.lookup y == some .local) && (sc.names.lookup z == some .local) && (py.line == px.line) && (pz.line == px.line) && !(x == y) && !(x == z) && !(y == z) && !(y == x) && !(z == x) && !(z == y) && !(vs.any starE) && !(vs.all (foldedForSure 8)) && !(vs.all (constantsAlone 8))
  | _, _ => false
theorem fm2 {a b : Expr} {x y : Str} {f : Expr → Option Str} (h1 : f a = some x) (h2 : f b = some y) : [a, b].filterMap f = [x, y] := by
  rw [List.filterMap_cons_some h1, List.filterMap_cons_some h2]
  rfl
theorem fm3 {a b c : Expr} {x y z : Str} {f : Expr → Option Str} (h1 : f a = some x) (h2 : f b = some y) (h3 : f c = some z) : [a, b, c].filterMap f = [x, y, z] := by
  rw [List.filterMap_cons_some h1, List.filterMap_cons_some h2, List.filterMap_cons_some h3]
  rfl
theorem noStars {vs : List Expr} (f : Expr → Bool) (hf : ∀ e, f e = starE e) (h : vs.any starE = false) : ¬ vs.any f = true := by
  have : f = starE := funext hf
  rw [this, h]
  exact Bool.false_ne_true
theorem swSome2 {env : Env} {x y : Str} {px py pt pt2 : Pos} {kt k2 : Nat} {vs : List Expr} (hk : env.scope.kind = .function) (h : swSome env.scope (.Tuple [.Name x px, .Name y py] kt pt) (.Tuple vs k2 pt2) = true) : swappedStores [.Tuple [.Name x px, .Name y py] kt pt] (.Tuple vs k2 pt2) env = pure (some [x, y]) := by
  have hb : env.blockKind = .function := by unfold Env.blockKind; rw [hk]; rfl
  unfold swSome at h
  simp only [Bool.and_eq_true, Bool.not_eq_true', beq_iff_eq] at h
  obtain ⟨⟨⟨⟨⟨⟨⟨⟨h1, h2⟩, h3⟩, h4⟩, h5⟩, h6⟩, h7⟩, h8⟩, h9⟩ := h
  unfold swappedStores
  simp only [pure_bind]
  rw [fm2 (x := x) (y := y)]
  · refine (if_neg ?_).trans ((if_neg (noStars _ ?_ h7)).trans ((if_neg ?_).trans ((if_neg ?_).trans ((if_neg ?_).trans rfl))))
    · simp [h1, hb]
    · intro e; cases e <;> rfl
    · simp [List.eraseDups, List.eraseDupsBy, List.eraseDupsBy.loop, h5, h6]
    · rw [h8]; exact Bool.false_ne_true
    · rw [h9]; exact Bool.false_ne_true
  · simp [Env.kindOf, h2, Expr.pos]
  · simp [Env.kindOf, h3, Expr.pos, h4]
theorem swSome3 {env : Env} {x y z : Str} {px py pz pt pt2 : Pos} {kt k2 : Nat} {vs : List Expr} (hk : env.scope.kind = .function) (h : swSome env.scope (.Tuple [.Name x px, .Name y py, .Name z pz] kt pt) (.Tuple vs k2 pt2) = true) : swappedStores [.Tuple [.Name x px, .Name y py, .Name z pz] kt pt] (.Tuple vs k2 pt2) env = pure (some [x, y, z]) := by
  have hb : env.blockKind = .function := by unfold Env.blockKind; rw [hk]; rfl
  unfold swSome at h
  simp only [Bool.and_eq_true, Bool.not_eq_true', beq_iff_eq] at h
  obtain ⟨⟨⟨⟨⟨⟨⟨⟨⟨⟨⟨⟨⟨⟨h1, h2⟩, h3⟩, h4⟩, h5⟩, h6⟩, g1⟩, g2⟩, g3⟩, g4⟩, g5⟩, g6⟩, h7⟩, h8⟩, h9⟩ := h
  unfold swappedStores
  simp only [pure_bind]
  rw [fm3 (x := x) (y := y) (z := z)]
  · refine (if_neg ?_).trans ((if_neg (noStars _ ?_ h7)).trans ((if_neg ?_).trans ((if_neg ?_).trans ((if_neg ?_).trans rfl))))
    · simp [h1, hb]
    · intro e; cases e <;> rfl
    · simp [List.eraseDups, List.eraseDupsBy, List.eraseDupsBy.loop, g1, g2, g3, g4, g5, g6]
    · rw [h8]; exact Bool.false_ne_true
    · rw [h9]; exact Bool.false_ne_true
  · simp [Env.kindOf, h2, Expr.pos]
  · simp [Env.kindOf, h3, Expr.pos, h5]
  · simp [Env.kindOf, h4, Expr.pos, h6]
end LS
set_option maxHeartbeats 1000000
/-! LsU: statements, one by one. -/
namespace LS
open PySem PySem.Spec PyProof.Rows L2

/-- what a statement leaves to those behind it -/
def Thru (kd : List Kind) (O0 : AS) (σ : L2.St) (H : Hp) (σ' : L2.St) (H' : Hp) : Prop := Stays (Own kd O0 σ) (Own kd O0 σ') H H' ∧ ∀ i : Nat, kd[i]? = some .io → σ'[i]? = σ[i]?
section
variable (k : Nat) (S : Sta) (X : Cx) (fr : Bool)
def FlOk (O0 : AS) (H0 : Hp) (σ : L2.St) (H : Hp) (fl : Fl) (env' : EnD) (D : Ends) : Prop := (fl = .nx → ∀ σ' H', SR X.K S.kd O0 H0 env' σ' H' → Thru S.kd O0 σ H σ' H' → D.nx σ' H') ∧
  ∀ d, fl = .rt d → ∀ v σ' H', SR X.K S.kd O0 H0 env' σ' H' → Thru S.kd O0 σ H σ' H' → Rep X.K O0 H' d v → (fr = true → RFr X.K O0 H0 H' d v) → D.rt v H'
def SOk (st : LS.S) (ts : TS) : Prop := ∀ (O0 : AS) (H0 : Hp) (env : EnD) (σ : L2.St) (H : Hp) (fl : Fl) (env' : EnD) (D : Ends), SR X.K S.kd O0 H0 env σ H → exS (run S.P k) S.P.gl st env = some (fl, env') → FlOk S X fr O0 H0 σ H fl env' D → ts D σ H
def SLOk (st : SL) (ts : TS) : Prop := ∀ (O0 : AS) (H0 : Hp) (env : EnD) (σ : L2.St) (H : Hp) (fl : Fl) (env' : EnD) (D : Ends), SR X.K S.kd O0 H0 env σ H → exL (run S.P k) S.P.gl st env = some (fl, env') → FlOk S X fr O0 H0 σ H fl env' D → ts D σ H
def SndS (st : LS.S) (s : Stmt) : Prop := ∃ ts, PS X s ts ∧ SOk k S X fr st ts
def SndSL (st : SL) (s : List Stmt) : Prop := ∃ ts, PSs X s ts ∧ SLOk k S X fr st ts
end
section
variable {k : Nat} {S : Sta} {X : Cx} {fr : Bool} {K : PySem.W.Frag} {kd : List Kind} {O0 O1 : AS} {H0 H H1 H' : Hp} {env env' : EnD} {σ σ' : L2.St}
theorem Thru.refl : Thru kd O0 σ H σ H := ⟨fun _ _ h n => ⟨h, n⟩, fun _ _ => rfl⟩
theorem Thru.trans {σ1 : L2.St} (a : Thru kd O0 σ H σ1 H1) (b : Thru kd O0 σ1 H1 σ' H') : Thru kd O0 σ H σ' H' :=
  ⟨fun c o h n => let ⟨x, y⟩ := a.1 c o h n; b.1 c o x y, fun i hi => (b.2 i hi).trans (a.2 i hi)⟩
theorem Thru.kp (k : Kp kd σ H H') : Thru kd O0 σ H σ H' := ⟨k.stays, fun _ _ => rfl⟩
theorem Thru.off {is : List Nat} (o : Off kd is σ σ') : Thru kd O0 σ H σ' H := ⟨fun b u h n => ⟨h, by rw [o.own]; exact n⟩, fun i hi => o.2.1 i fun z => by
  have := o.2.2 i z
  rw [hi] at this
  cases this⟩
theorem Thru.edit {a : Addr} {o : HO} (h : Own kd O0 σ a) : Thru kd O0 σ H σ (upd H a o) := ⟨fun b u hb hn => ⟨by rw [upd_ne fun z => hn (by subst z; exact h)]; exact hb, hn⟩, fun _ _ => rfl⟩
theorem FlOk.nx {O0 : AS} {H0 H : Hp} {σ : L2.St} {env' : EnD} {D : Ends} (f : FlOk S X fr O0 H0 σ H .nx env' D) {σ' : L2.St} {H' : Hp} (s : SR X.K S.kd O0 H0 env' σ' H') (t : Thru S.kd O0 σ H σ' H') : D.nx σ' H' := f.1 rfl σ' H' s t
theorem FlOk.from {O0 : AS} {H0 H H1 : Hp} {σ σ1 : L2.St} {fl : Fl} {env' : EnD} {D : Ends} (f : FlOk S X fr O0 H0 σ H fl env' D) (t : Thru S.kd O0 σ H σ1 H1) : FlOk S X fr O0 H0 σ1 H1 fl env' D :=
  ⟨fun e σ' H' s t' => f.1 e σ' H' s (t.trans t'), fun d e v σ' H' s t' => f.2 d e v σ' H' s (t.trans t')⟩

/-! ### blocks -/
theorem s_nil : SndSL k S X fr .nil [] := ⟨_, pss_nil, fun O0 H0 env σ H fl env' D s h f => by
  unfold exL at h
  cases h
  exact f.nx s .refl⟩
theorem s_cons {st : LS.S} {r : SL} {s1 : Stmt} {ss : List Stmt} (h1 : SndS k S X fr st s1) (h2 : SndSL k S X fr r ss) : SndSL k S X fr (.cons st r) (s1 :: ss) := by
  obtain ⟨t1, p1, e1⟩ := h1
  obtain ⟨t2, p2, e2⟩ := h2
  refine ⟨_, pss_cons p1 p2, fun O0 H0 env σ H fl env' D s h f => ?_⟩
  unfold exL at h
  obtain ⟨⟨f1, en1⟩, a1, h⟩ := bindS h
  refine e1 O0 H0 env σ H f1 en1 _ s a1 ⟨fun e σ1 H1 s1 t1 => ?_, fun d e v σ1 H1 s1 t1 r1 r2 => ?_⟩
  · subst e
    exact e2 O0 H0 en1 σ1 H1 fl env' D s1 h (f.from t1)
  · subst e
    cases h
    exact f.2 d rfl v σ1 H1 s1 t1 r1 r2
theorem s_ifs {cd : E} {a b : SL} {c' : Expr} {sa sb : List Stmt} {pos : Pos} (hc : SndB k S X cd c') (ha : SndSL k S X fr a sa) (hb : SndSL k S X fr b sb) : SndS k S X fr (.ifs cd a b) (.If c' sa sb pos) := by
  obtain ⟨tc, pc, ec⟩ := hc
  obtain ⟨ta, pa, ea⟩ := ha
  obtain ⟨tb, pb, eb⟩ := hb
  refine ⟨_, ps_if pc pa pb, fun O0 H0 env σ H fl env' D s h f => ?_⟩
  unfold exS at h
  obtain ⟨⟨b1, en1⟩, a1, h⟩ := bindS h
  refine ec O0 H0 env σ H b1 en1 _ s a1 fun H1 s1 k1 => ?_
  cases b1 with
  | true =>
    simp only [if_true] at h ⊢
    exact ea O0 H0 en1 σ H1 fl env' D s1 h (f.from (.kp k1))
  | false =>
    simp only [Bool.false_eq_true, if_false] at h ⊢
    exact eb O0 H0 en1 σ H1 fl env' D s1 h (f.from (.kp k1))
theorem s_pass {pos : Pos} : SndS k S X fr .pass (.Pass pos) := ⟨_, ps_pass, fun O0 H0 env σ H fl env' D s h f => by
  unfold exS at h
  cases h
  exact f.nx s .refl⟩
theorem s_rais {st : Stmt} : SndS k S X fr .rais st := ⟨_, ps_never, fun O0 H0 env σ H fl env' D s h f => by
  unfold exS at h
  cases h⟩
theorem s_ex {e : E} {a : Expr} {pos : Pos} (hn : compScope a = none) (h : SndE k S X .vw e a) : SndS k S X fr (.ex e) (.Expr a pos) := by
  obtain ⟨t, p, ee⟩ := h
  refine ⟨_, ps_expr p (swN_ok hn), fun O0 H0 env σ H fl env' D s h f => ?_⟩
  unfold exS at h
  obtain ⟨⟨d1, en1⟩, a1, h2⟩ := Option.map_eq_some_iff.mp h
  cases h2
  exact ee O0 H0 env σ H d1 en1 _ s a1 (fun z => by cases z) fun v H1 s1 k1 _ => f.nx s1 (.kp k1)

/-! ### the ends -/
theorem Rep.back (h : SR K kd O0 H0 env σ H) {d : D} {v : V} (r : Rep K (Own kd O0 σ) H d v) : Rep K O0 H d v := r.mono fun b o hb hn => ⟨hb, fun z => hn (.inl z)⟩
theorem s_ret {e : E} {a : Expr} {pos : Pos} (hf : fr = false) (h : SndE k S X .str e a) : SndS k S X fr (.ret e) (.Return (some a) pos) := by
  obtain ⟨t, p, ee⟩ := h
  refine ⟨_, ps_ret p, fun O0 H0 env σ H fl env' D s h f => ?_⟩
  unfold exS at h
  obtain ⟨⟨d1, en1⟩, a1, h2⟩ := Option.map_eq_some_iff.mp h
  cases h2
  exact ee O0 H0 env σ H d1 en1 _ s a1 (fun z => by cases z) fun v H1 s1 k1 r1 => f.2 d1 rfl v σ H1 s1 (.kp k1) (Rep.back s1 r1) fun z => by rw [hf] at z; cases z
theorem rfr_of {l : List D} {a : Addr} {xs : List V} (s : SR K kd O0 H0 env σ H) (n0 : H0 a = none) (hH : H a = some (.lst xs)) (r : ∀ O2 : AS, (∀ b, O2 b → Own kd O0 σ b ∨ b = a) → Reps K O2 H l xs) : Rep K O0 H (.lst l) (.ref a) ∧ RFr K O0 H0 H (.lst l) (.ref a) := by
  refine ⟨?_, a, l, xs, rfl, rfl, n0, hH, r _ fun b hb => hb.elim (fun z => .inl (.inl z)) .inr⟩
  unfold Rep
  refine ⟨a, xs, rfl, ⟨hH, fun z => ?_⟩, r _ fun b hb => .inl (.inl hb)⟩
  obtain ⟨ys, e⟩ := s.o0 a z
  rw [n0] at e
  cases e
theorem s_retF {e : E} {a : Expr} {pos : Pos} (h : SndE k S X .fr e a) : SndS k S X fr (.retF e) (.Return (some a) pos) := by
  obtain ⟨t, p, ee⟩ := h
  refine ⟨_, ps_ret p, fun O0 H0 env σ H fl env' D s h f => ?_⟩
  unfold exS at h
  obtain ⟨⟨d1, en1⟩, a1, h⟩ := bindS h
  cases d1 <;> first | (cases h; done) | skip
  rename_i l0
  cases h
  refine ee O0 H0 env σ H _ en1 _ s a1 (fun _ => ⟨_, rfl⟩) fun v H1 s1 k1 r1 => ?_
  obtain ⟨b, l, xs, e1, rfl, n, hH, r⟩ := r1
  cases e1
  obtain ⟨g1, g2⟩ := rfr_of s1 (s.h0 n) hH fun O2 h2 => r.mono fun c o hc hn => ⟨hc, fun z => hn (h2 c z)⟩
  exact f.2 _ rfl _ σ H1 s1 (.kp k1) g1 fun _ => g2
theorem s_retO (c : Ctx k S X) {i : Nat} {x : Str} {p pos : Pos} (hk : S.kd[i]? = some .loc) (hn : S.nm i x = true) : SndS k S X fr (.retO i) (.Return (some (.Name x p)) pos) := by
  refine ⟨_, ps_ret (nm_pe c hn), fun O0 H0 env σ H fl env' D s h f => ?_⟩
  unfold exS at h
  obtain ⟨d, h1, h2⟩ := Option.map_eq_some_iff.mp h
  cases h2
  obtain ⟨a, l, xs, rfl, ha, hH, n0, r⟩ := s.lc i d hk (getE_some h1)
  obtain ⟨g1, g2⟩ := rfr_of s n0 hH fun O2 h2 => r.mono fun c o hc hn => ⟨hc, fun z => hn ((h2 c z).elim id fun e => by subst e; exact .inr ⟨i, .inl hk, ha⟩)⟩
  exact ⟨_, ha, f.2 _ rfl _ σ H s .refl g1 fun _ => g2⟩
theorem s_retN {pos : Pos} (hf : fr = false) : SndS k S X fr .retN (.Return none pos) := ⟨_, ps_retN, fun O0 H0 env σ H fl env' D s h f => by
  unfold exS at h
  cases h
  exact f.2 _ rfl _ σ H s .refl (by unfold Rep; rfl) fun z => by rw [hf] at z; cases z⟩

/-! ### stores -/
theorem s_asg (c : Ctx k S X) {t : T} {e : E} {tg a : Expr} {pos : Pos} (ht : chkT S t tg = true) (hs : noStar tg = true) (hw : swNone S.sc tg a = true) (hv : swV S.sc tg a = false) (h : SndE k S X .str e a) : SndS k S X fr (.asg t e) (.Assign [tg] a pos) := by
  obtain ⟨g, pg, eg⟩ := snd_g c ht
  obtain ⟨te, p, ee⟩ := h
  refine ⟨_, ps_asg p pg (by rw [show swapsWithSole [tg] a pos.line X.env = swapsWith a (some tg) pos.line X.env from rfl, swV_ok (by rw [c.sc]; exact c.kf), c.sc, hv]) (swNone_ok (by rw [c.sc]; exact hw)) (by rw [asg1 hs]; rfl), fun O0 H0 env σ H fl env' D s h f => ?_⟩
  unfold exS at h
  obtain ⟨⟨d1, en1⟩, a1, h⟩ := bindS h
  obtain ⟨en2, a2, h2⟩ := Option.map_eq_some_iff.mp h
  cases h2
  refine ee O0 H0 env σ H d1 en1 _ s a1 (fun z => by cases z) fun v H1 s1 k1 r1 => ?_
  exact eg O0 H0 en1 σ H1 d1 v _ _ s1 a2 r1 fun σ2 s2 o2 => f.nx s2 ((Thru.kp k1).trans (.off o2))
/-- the slot of one name -/
theorem st_of (c : Ctx k S X) {i : Nat} {x : Str} (h : S.st i x = true) : X.N[i]? = some x ∧ L2.Loc X.env.scope x ∧ (X.fn x = true ∨ X.env.scope.names.lookup x = some .local) := by
  unfold Sta.st at h
  simp only [Bool.and_eq_true, decide_eq_true_eq, Bool.or_eq_true] at h
  obtain ⟨⟨h3, h4⟩, h5⟩ := h
  rw [c.N, c.sc]
  refine ⟨h3, ?_, ?_⟩
  · unfold isLoc at h4
    unfold L2.Loc
    split at h4
    · exact .inl (by assumption)
    · exact .inr (by assumption)
    · cases h4
  · rcases h5 with h5 | h5
    · exact .inl (c.fnB x h5)
    · unfold isPlain at h5
      split at h5
      · exact .inr (by assumption)
      · cases h5
theorem set1 (c : Ctx k S X) {i : Nat} {e : E} {m : Md} {x : Str} {px pos : Pos} {a : Expr} (hst : S.st i x = true) (h : (swV S.sc (.Name x px) a = false ∧ SndE k S X m e a) ∨ (swV S.sc (.Name x px) a = true ∧ isPlain S.sc x = true ∧ SndC k S X m e a)) : ∃ t, PS X (.Assign [.Name x px] a pos) (tAsg t (gName i)) ∧ EOk k S X m e t := by
  obtain ⟨h1, h2, h3⟩ := st_of c hst
  rcases h with ⟨hv, t, p, ee⟩ | ⟨hv, hp, t, p, ee, st⟩
  · exact ⟨t, ps_set (by rw [c.N]; exact c.nd) h1 h2 p (by rw [swV_ok (by rw [c.sc]; exact c.kf), c.sc, hv]) h3, ee⟩
  · have hl : X.env.scope.names.lookup x = some .local := by
      rw [c.sc]
      unfold isPlain at hp
      split at hp
      · assumption
      · cases hp
    exact ⟨t, st i x px pos h1 hl (by rw [swV_ok (by rw [c.sc]; exact c.kf), c.sc, hv]), ee⟩
/-- name = value, the name holds plain values -/
theorem s_asgN (c : Ctx k S X) {i : Nat} {e : E} {x : Str} {px pos : Pos} {a : Expr} (hst : S.st i x = true) (hk : S.kd[i]? = some .val) (h : (swV S.sc (.Name x px) a = false ∧ SndE k S X .str e a) ∨ (swV S.sc (.Name x px) a = true ∧ isPlain S.sc x = true ∧ SndC k S X .str e a)) : SndS k S X fr (.asg (.n i) e) (.Assign [.Name x px] a pos) := by
  obtain ⟨t, ps, ee⟩ := set1 (pos := pos) c hst h
  refine ⟨_, ps, fun O0 H0 env σ H fl env' D s h f => ?_⟩
  unfold exS at h
  obtain ⟨⟨d1, en1⟩, a1, h⟩ := bindS h
  obtain ⟨en2, a2, h2⟩ := Option.map_eq_some_iff.mp h
  cases h2
  unfold asgT at a2
  cases a2
  refine ee O0 H0 env σ H d1 en1 _ s a1 (fun z => by cases z) fun v H1 s1 k1 r1 => ?_
  exact f.nx (s1.setv hk fun d' e => by cases e; exact ⟨v, rfl, r1⟩) ((Thru.kp k1).trans (.off (.set hk)))
theorem own_thru (s : SR K kd O0 H0 env σ H) {i : Nat} {a : Addr} (hk : kd[i]? = some .loc) (kp : Kp kd σ H H') (n : H a = none) : Thru kd O0 σ H (σ.set i (some (.ref a))) H' := by
  refine ⟨fun b o hb hn => ⟨kp b o hb fun z => hn (io_own z), fun z => ?_⟩, fun j hj => List.getElem?_set_ne fun e => ?_⟩
  · rcases own_seti (.inl hk) z with z | z
    · exact hn z
    · subst z; rw [n] at hb; cases hb
  · subst e; rw [hk] at hj; cases hj
theorem notO (s : SR K kd O0 H0 env σ H) {a : Addr} (n : H a = none) : ¬ O0 a := fun z => by
  obtain ⟨xs, e⟩ := s.o0 a z
  rw [s.h0 n] at e
  cases e
theorem pend_own (s : SR K kd O0 H0 env σ H) (s' : SR K kd O0 H0 env' σ H') (kp : Kp kd σ H H') (sm : Same kd env env') {d : D} {v : V} (r : RepF K kd O0 σ H H' d v) : ∃ a xs, v = .ref a ∧ H a = none ∧ SR K kd (more O0 a) (upd H0 a (.lst xs)) env' σ H' ∧ Pend K kd .loc O0 H0 (more O0 a) (upd H0 a (.lst xs)) σ d v H' := by
  obtain ⟨a, l, xs, rfl, rfl, n, hH, r⟩ := r
  refine ⟨a, xs, rfl, n, s.absorb s' kp sm n hH, a, l, xs, rfl, rfl, rfl, rfl, hH, s.h0 n, notO s n, r.mono fun b o hb hn => ⟨hb, fun z => hn (own_more.mp z)⟩, s.notAt n⟩
theorem s_own (c : Ctx k S X) {i : Nat} {e : E} {x : Str} {px pos : Pos} {a : Expr} (hst : S.st i x = true) (hk : S.kd[i]? = some .loc) (hio : ioE S.kd e = true) (h : (swV S.sc (.Name x px) a = false ∧ SndE k S X .fr e a) ∨ (swV S.sc (.Name x px) a = true ∧ isPlain S.sc x = true ∧ SndC k S X .fr e a)) : SndS k S X fr (.own i e) (.Assign [.Name x px] a pos) := by
  obtain ⟨t, ps, ee⟩ := set1 (pos := pos) c hst h
  refine ⟨_, ps, fun O0 H0 env σ H fl env' D s h f => ?_⟩
  unfold exS at h
  obtain ⟨⟨d1, en1⟩, a1, h⟩ := bindS h
  cases d1 <;> first | (cases h; done) | skip
  rename_i l0
  cases h
  refine ee O0 H0 env σ H _ en1 _ s a1 (fun _ => ⟨_, rfl⟩) fun v H1 s1 k1 r1 => ?_
  obtain ⟨b, xs, rfl, n, s2, p⟩ := pend_own s s1 k1 (ev_same hio a1) r1
  exact f.nx (s2.settle hk (by decide) p).1 (own_thru s hk k1 n)

/-! ### in place -/
theorem ixN_lt {n : Nat} {i : Int} {j : Nat} (h : ixN n i = some j) : j < n := by
  unfold ixN at h
  split at h
  · split at h
    · cases h; omega
    · cases h
  · split at h
    · cases h; omega
    · cases h
theorem sub_pg (c : Ctx k S X) {i : Nat} {x' : Expr} {x : Str} {px ps : Pos} {tx : TE} (hn : S.nm i x = true) (hsl : noSlice x' = true) (hx : PE X x' tx) : PG X (.Subscript (.Name x px) x' ps) (gSub (tVar i) tx rSetL) :=
  pg_sub (nm_pe c hn) hx set_list (by intro v; cases x' <;> first | rfl | exact (Bool.false_ne_true hsl).elim)
theorem sub_sw {env : Env} {o x e : Expr} {ps : Pos} {l : Nat} : swapsWithSole [.Subscript o x ps] e l env = pure false := by
  show swapsWith e (some (.Subscript o x ps)) l env = pure false
  unfold swapsWith
  cases e <;> rfl
theorem s_sub (c : Ctx k S X) {io : Bool} {i : Nat} {xe e : E} {x : Str} {px p2 pos : Pos} {x' a : Expr} (hn : S.nm i x = true) (hk : S.kd[i]? = some (if io then .io else .loc)) (hsl : noSlice x' = true) (hx : SndE k S X .vw xe x') (h : SndE k S X .str e a) : SndS k S X fr (.sub io i xe e) (.Assign [.Subscript (.Name x px) x' p2] a pos) := by
  obtain ⟨te, p, ee⟩ := h
  obtain ⟨tx, px', ex⟩ := hx
  refine ⟨_, ps_asg p (sub_pg c hn hsl px') sub_sw rfl, fun O0 H0 env σ H fl env' D s h f => ?_⟩
  unfold exS at h
  obtain ⟨⟨d1, en1⟩, a1, h⟩ := bindS h
  obtain ⟨dl1, a0, h⟩ := bindS h
  obtain ⟨⟨d2, en2⟩, a2, h⟩ := bindS h
  have hi : ∃ l q j, getE en2 i = some (.lst l) ∧ d2 = .int q ∧ (io = true → ∃ n, d1 = .int n) ∧ ixN l.length q = some j ∧ fl = .nx ∧ env' = en2.set i (some (.lst (l.set j d1))) := by
    dsimp only at h
    cases hg : getE en2 i with
    | none => rw [hg] at h; cases h
    | some dl =>
      rw [hg] at h
      cases dl <;> first | (cases h; done) | skip
      cases d2 <;> first | (cases h; done) | skip
      dsimp only at h
      split at h
      · cases h
      · rename_i hc
        obtain ⟨j, h1, h2⟩ := Option.map_eq_some_iff.mp h
        cases h2
        refine ⟨_, _, j, rfl, rfl, fun z => ?_, h1, rfl, rfl⟩
        subst z
        cases d1 <;> first | exact ⟨_, rfl⟩ | (exact absurd rfl hc)
  obtain ⟨l, q, j, g1, rfl, g3, g4, rfl, rfl⟩ := hi
  refine ee O0 H0 env σ H d1 en1 _ s a1 (fun z => by cases z) fun v H1 s1 k1 r1 => ?_
  cases io with
  | false =>
    obtain ⟨b, _, _, _, ha, _, _, _⟩ := s1.lc i dl1 hk (getE_some a0)
    refine ⟨_, ha, ex O0 H0 en1 σ H1 _ en2 _ s1 a2 (fun z => by cases z) fun v2 H2 s2 k2 r2 => ?_⟩
    obtain ⟨b2, l2, xs, e2, ha2, hH, n0, rr⟩ := s2.lc i _ hk (getE_some g1)
    cases e2
    cases ha.inj ha2
    have e3 : v2 = .int q := RepV.int (show RepV X.K S.kd O0 σ H2 (.int q) v2 from r2)
    subst e3
    refine ⟨b, xs, q, j, rfl, rfl, hH, by rw [rr.len]; exact g4, ?_⟩
    exact f.nx (s2.edit hk ha hH n0 (rr.set j (r1.mono k2.stays))) (((Thru.kp k1).trans (.kp k2)).trans (.edit (.inr ⟨i, .inl hk, ha⟩)))
  | true =>
    obtain ⟨n, rfl⟩ := g3 rfl
    obtain ⟨b, _, _, ha, _⟩ := s1.io i dl1 hk (getE_some a0)
    refine ⟨_, ha, ex O0 H0 en1 σ H1 _ en2 _ s1 a2 (fun z => by cases z) fun v2 H2 s2 k2 r2 => ?_⟩
    obtain ⟨b2, ns, e2, ha2, hH⟩ := s2.io i _ hk (getE_some g1)
    cases e2
    cases ha.inj ha2
    have e3 : v2 = .int q := RepV.int (show RepV X.K S.kd O0 σ H2 (.int q) v2 from r2)
    subst e3
    have e4 : v = .int n := Rep.scal_int (show Rep X.K (Own S.kd O0 σ) H1 (.int n) v from r1)
    subst e4
    rw [List.length_map] at g4
    refine ⟨b, _, q, j, rfl, rfl, hH, by rw [List.length_map]; exact g4, ?_⟩
    have := s2.editI (ns := ns.set j n) hk ha hH
    rw [List.map_set, List.map_set] at this
    exact f.nx this (((Thru.kp k1).trans (.kp k2)).trans (.edit (.inr ⟨i, .inr hk, ha⟩)))
/-- x[written place], y = e -/
theorem s_subn (c : Ctx k S X) {i j : Nat} {z : Int} {e : E} {x y : Str} {px py p2 p3 pos : Pos} {kt : Nat} {x' a : Expr} (hn : S.nm i x = true) (hk : S.kd[i]? = some .io) (hj : S.st j y = true) (hkj : S.kd[j]? = some .val) (hsl : noSlice x' = true) (hx : chk S .vw (.int z) x' = true)
    (hw : swNone S.sc (.Tuple [.Subscript (.Name x px) x' p2, .Name y py] kt p3) a = true) (h : SndE k S X .str e a) : SndS k S X fr (.subn i z j e) (.Assign [.Tuple [.Subscript (.Name x px) x' p2, .Name y py] kt p3] a pos) := by
  obtain ⟨te, p, ee⟩ := h
  obtain ⟨tx, px', ex⟩ := snd_e (.int z) c hx
  obtain ⟨h1, h2, h3⟩ := st_of c hj
  have hsw : swapsWithSole [.Tuple [.Subscript (.Name x px) x' p2, .Name y py] kt p3] a pos.line X.env = pure false := by
    show swapsWith a (some (.Tuple [.Subscript (.Name x px) x' p2, .Name y py] kt p3)) pos.line X.env = pure false
    unfold swapsWith
    cases a <;> rfl
  refine ⟨_, ps_asg p (pg_tup c.cm (pgs_cons (sub_pg c hn hsl px') (pgs_cons (pg_name (by rw [c.N]; exact c.nd) h1 h2 h3) pgs_nil))) hsw (swNone_ok (by rw [c.sc]; exact hw)) rfl, fun O0 H0 env σ H fl env' D s h f => ?_⟩
  unfold exS at h
  obtain ⟨⟨d1, en1⟩, a1, h⟩ := bindS h
  have hi : ∃ a d l n, d1 = .tup [.int a, d] ∧ getE en1 i = some (.lst l) ∧ ixN l.length z = some n ∧ fl = .nx ∧ env' = (en1.set i (some (.lst (l.set n (.int a))))).set j (some d) := by
    dsimp only at h
    cases hg : getE en1 i with
    | none =>
      rw [hg] at h
      split at h
      · rename_i e; cases e
      · cases h
    | some dl =>
      rw [hg] at h
      split at h
      · rename_i e
        cases e
        obtain ⟨n, h1, h2⟩ := Option.map_eq_some_iff.mp h
        cases h2
        exact ⟨_, _, _, n, rfl, rfl, h1, rfl, rfl⟩
      · cases h
  obtain ⟨n, d, l, m, rfl, g1, g2, rfl, rfl⟩ := hi
  refine ee O0 H0 env σ H _ en1 _ s a1 (fun z => by cases z) fun v H1 s1 k1 r1 => ?_
  have r1 : Rep X.K (Own S.kd O0 σ) H1 (.tup [.int n, d]) v := r1
  unfold Rep at r1
  obtain ⟨b0, xs, rfl, tp, rr⟩ := r1
  have hl := rr.len
  obtain ⟨v1, v2, rfl⟩ : ∃ v1 v2, xs = [v1, v2] := by
    match xs, hl with
    | [v1, v2], _ => exact ⟨v1, v2, rfl⟩
  have q1 := rr.uncons
  have e1 : v1 = .int n := Rep.scal_int q1.1
  subst e1
  have q2 := q1.2.uncons.1
  obtain ⟨b, ns, e2, ha, hH⟩ := s1.io i _ hk (getE_some g1)
  cases e2
  rw [List.length_map] at g2
  refine ⟨b0, _, rfl, tp.sq, rfl, .int n, [v2], rfl, _, ha, ex O0 H0 en1 σ H1 (.int z) en1 _ s1 (by unfold ev; rfl) (fun z => by cases z) fun w H2 s2 k2 r2 => ?_⟩
  have e3 : w = .int z := RepV.int (show RepV X.K S.kd O0 σ H2 (.int z) w from r2)
  subst e3
  obtain ⟨b2, ns2, e4, ha2, hH2⟩ := s2.io i _ hk (getE_some g1)
  have e5 : ns = ns2 := by
    have : ns.map LS.D.int = ns2.map LS.D.int := LS.D.lst.inj e4
    exact List.map_inj_right (fun a b e => LS.D.int.inj e) |>.mp this
  subst e5
  cases ha.inj ha2
  refine ⟨b, _, z, m, rfl, rfl, hH2, by rw [List.length_map]; exact g2, v2, [], rfl, rfl, ?_⟩
  have s3 := s2.editI (ns := ns.set m n) hk ha hH2
  rw [List.map_set, List.map_set] at s3
  have t3 := ((Thru.kp k1).trans (.kp k2)).trans (.edit (o := .lst ((ns.map V.int).set m (.int n))) (H := H2) (O0 := O0) (kd := S.kd) (.inr ⟨i, .inr hk, ha⟩))
  have q3 := (q2.mono k2.stays).mono (Thru.edit (o := .lst ((ns.map V.int).set m (.int n))) (.inr ⟨i, .inr hk, ha⟩)).1
  exact f.nx (s3.setv hkj fun d' e => by cases e; exact ⟨v2, rfl, q3⟩) (t3.trans (.off (.set hkj)))
/-- the slot that stands for a tracked list -/
theorem tyL {K : PySem.W.Frag} {H : Hp} {a : Addr} {xs : List V} (h : H a = some (.lst xs)) : tyV K "list" (.ref a) H := .inl ⟨rfl, _, SqL.of h⟩
end
end LS
set_option maxHeartbeats 1000000
/-! LsV: statements: methods of lists, pairs of stores, loops. -/
namespace LS
open PySem PySem.Spec PyProof.Rows L2

section
variable {k : Nat} {S : Sta} {X : Cx} {fr : Bool} {K : PySem.W.Frag} {kd : List Kind} {O0 O1 : AS} {H0 H H1 H' : Hp} {env env' : EnD} {σ σ' : L2.St}
theorem s_app (c : Ctx k S X) {i : Nat} {e : E} {x nm : Str} {px p1 p2 pos : Pos} {a : Expr} (hn : S.nm i x = true) (hk : S.kd[i]? = some .loc) (hnm : nm = ("append" : Str)) (hln : (p1.endLine == p2.line) = true) (hs : noStar a = true) (h : SndE k S X .str e a) : SndS k S X fr (.app i e) (.Expr (.Call (.Attribute (.Name x px) nm p1) [a] [] p2) pos) := by
  obtain ⟨te, p, ee⟩ := h
  subst hnm
  refine ⟨_, ps_expr (pe_bm PySem.F.plainAttrs_list PySem.F.slot_list_append PySem.F.type_list_append mt_append (nm_pe c hn) (pa_cons p pa_nil (star1 hs)) rfl (by rw [star1 hs]; rfl) hln (star1 hs) rfl) (swN_ok rfl), fun O0 H0 env σ H fl env' D s h f => ?_⟩
  unfold exS at h
  obtain ⟨dl1, a0, h⟩ := bindS h
  obtain ⟨⟨d1, en1⟩, a1, h⟩ := bindS h
  have hi : ∃ l, getE en1 i = some (.lst l) ∧ l.length < 1000000 ∧ fl = .nx ∧ env' = en1.set i (some (.lst (l ++ [d1]))) := by
    dsimp only at h
    cases hg : getE en1 i with
    | none => rw [hg] at h; cases h
    | some dl =>
      rw [hg] at h
      cases dl <;> first | (cases h; done) | skip
      dsimp only at h
      split at h
      · cases h; exact ⟨_, rfl, by assumption, rfl, rfl⟩
      · cases h
  obtain ⟨l, g1, g2, rfl, rfl⟩ := hi
  obtain ⟨b, _, xs0, _, ha, hH0, _, _⟩ := s.lc i dl1 hk (getE_some a0)
  refine ⟨_, ha, tyL hH0, ee O0 H0 env σ H d1 en1 _ s a1 (fun z => by cases z) fun v H1 s1 k1 r1 => ?_⟩
  obtain ⟨b2, l2, xs, e2, ha2, hH, n0, rr⟩ := s1.lc i _ hk (getE_some g1)
  cases e2
  cases ha.inj ha2
  refine ⟨b, xs, v, rfl, rfl, hH, by rw [rr.len]; unfold sizeLine; omega, ?_⟩
  exact f.nx (s1.edit hk ha hH n0 (rr.append (.one r1))) ((Thru.kp k1).trans (.edit (.inr ⟨i, .inl hk, ha⟩)))
theorem pop_at (s : SR K kd O0 H0 env σ H) {i : Nat} {l : List D} (hk : kd[i]? = some .loc) (hg : getE env i = some (.lst l)) {d : D} (hd : l.getLast? = some d) : ∃ a xs v, At σ i a ∧ H a = some (.lst xs) ∧ xs[xs.length - 1]? = some v ∧
    SR K kd O0 H0 (env.set i (some (.lst l.dropLast))) σ (upd H a (.lst xs.dropLast)) ∧ Rep K (Own kd O0 σ) (upd H a (.lst xs.dropLast)) d v := by
  obtain ⟨a, l2, xs, e2, ha, hH, n0, rr⟩ := s.lc i _ hk (getE_some hg)
  cases e2
  rw [List.getLast?_eq_getElem?] at hd
  obtain ⟨v, h1, h2⟩ := rr.get hd
  refine ⟨a, xs, v, ha, hH, by rw [rr.len]; exact h1, s.edit hk ha hH n0 rr.dropLast, h2.mono (Thru.edit (.inr ⟨i, .inl hk, ha⟩)).1⟩
theorem s_pop (c : Ctx k S X) {i : Nat} {x nm : Str} {px p1 p2 pos : Pos} (hn : S.nm i x = true) (hk : S.kd[i]? = some .loc) (hnm : nm = ("pop" : Str)) (hln : (p1.endLine == p2.line) = true) : SndS k S X fr (.pop i) (.Expr (.Call (.Attribute (.Name x px) nm p1) [] [] p2) pos) := by
  subst hnm
  refine ⟨_, ps_expr (pe_bm0 PySem.F.plainAttrs_list PySem.F.slot_list_pop PySem.F.type_list_pop mt_pop (nm_pe c hn) rfl hln) (swN_ok rfl), fun O0 H0 env σ H fl env' D s h f => ?_⟩
  unfold exS at h
  have hi : ∃ l, getE env i = some (.lst l) ∧ l ≠ [] ∧ fl = .nx ∧ env' = env.set i (some (.lst l.dropLast)) := by
    cases hg : getE env i with
    | none => rw [hg] at h; cases h
    | some dl =>
      rw [hg] at h
      cases dl <;> first | (cases h; done) | skip
      dsimp only at h
      split at h
      · cases h
      · cases h; exact ⟨_, rfl, by assumption, rfl, rfl⟩
  obtain ⟨l, g1, g2, rfl, rfl⟩ := hi
  obtain ⟨a, xs, v, ha, hH, hv, s2, _⟩ := pop_at s hk g1 (List.getLast?_eq_getLast g2)
  exact ⟨_, ha, tyL hH, a, xs, v, rfl, rfl, hH, hv, f.nx s2 (.edit (.inr ⟨i, .inl hk, ha⟩))⟩
theorem s_popT (c : Ctx k S X) {t : T} {i : Nat} {tg : Expr} {x nm : Str} {px p1 p2 pos : Pos} (ht : chkT S t tg = true) (hs : noStar tg = true) (hn : S.nm i x = true) (hk : S.kd[i]? = some .loc) (hnm : nm = ("pop" : Str)) (hln : (p1.endLine == p2.line) = true) :
    SndS k S X fr (.popT t i) (.Assign [tg] (.Call (.Attribute (.Name x px) nm p1) [] [] p2) pos) := by
  subst hnm
  obtain ⟨g, pg, eg⟩ := snd_g c ht
  have hsw : swapsWithSole [tg] (.Call (.Attribute (.Name x px) "pop" p1) [] [] p2) pos.line X.env = pure false := rfl
  refine ⟨_, ps_asg (pe_bm0 PySem.F.plainAttrs_list PySem.F.slot_list_pop PySem.F.type_list_pop mt_pop (nm_pe c hn) rfl hln) pg hsw (by unfold swappedStores; cases tg <;> rfl) (by rw [asg1 hs]; rfl), fun O0 H0 env σ H fl env' D s h f => ?_⟩
  unfold exS at h
  have hi : ∃ l d, getE env i = some (.lst l) ∧ l.getLast? = some d ∧ fl = .nx ∧ asgT t d (env.set i (some (.lst l.dropLast))) = some env' := by
    cases hg : getE env i with
    | none => rw [hg] at h; cases h
    | some dl =>
      rw [hg] at h
      cases dl <;> first | (cases h; done) | skip
      dsimp only at h
      split at h
      · rename_i d hd
        obtain ⟨e2, h1, h2⟩ := Option.map_eq_some_iff.mp h
        cases h2
        exact ⟨_, d, rfl, hd, rfl, h1⟩
      · cases h
  obtain ⟨l, d, g1, g2, rfl, g3⟩ := hi
  obtain ⟨a, xs, v, ha, hH, hv, s2, r2⟩ := pop_at s hk g1 g2
  refine ⟨_, ha, tyL hH, a, xs, v, rfl, rfl, hH, hv, ?_⟩
  exact eg O0 H0 _ σ _ d v _ _ s2 g3 r2 fun σ2 s3 o3 => f.nx s3 (Thru.trans (.edit (.inr ⟨i, .inl hk, ha⟩)) (.off o3))

/-! ### two or three stores from one row -/
def mdOf : Kind → Md
  | .val => .str
  | _ => .fr
/-- as Pend, by the owners of now -/
def PendC (K : PySem.W.Frag) (kd : List Kind) (kn : Kind) (O : AS) (H0 : Hp) (O1 : AS) (H01 : Hp) (OC : AS) (σ : L2.St) (d : D) (v : V) (H : Hp) : Prop := match kn with
  | .val => O1 = O ∧ H01 = H0 ∧ Rep K (Own kd OC σ) H d v
  | _ => ∃ a l xs, d = .lst l ∧ v = .ref a ∧ O1 = more O a ∧ H01 = upd H0 a (.lst xs) ∧ H a = some (.lst xs) ∧ H0 a = none ∧ ¬ O a ∧ Reps K (Own kd OC σ) H l xs ∧ ∀ j, isOwn kd j → ¬ At σ j a
theorem Pend.c {kn : Kind} {H01 : Hp} {d : D} {v : V} (p : Pend K kd kn O0 H0 O1 H01 σ d v H) : PendC K kd kn O0 H0 O1 H01 O1 σ d v H := by
  cases kn <;> exact p
theorem PendC.p {kn : Kind} {H01 : Hp} {d : D} {v : V} (p : PendC K kd kn O0 H0 O1 H01 O1 σ d v H) : Pend K kd kn O0 H0 O1 H01 σ d v H := by
  cases kn <;> exact p
theorem PendC.up {kn : Kind} {OC OC' : AS} {H01 : Hp} {d : D} {v : V} (hk : kn ≠ .io) (p : PendC K kd kn O0 H0 O1 H01 OC σ d v H) (k : Kp kd σ H H') (sub : ∀ b o, H b = some o → ¬ Own kd OC σ b → ¬ Own kd OC' σ b) : PendC K kd kn O0 H0 O1 H01 OC' σ d v H' := by
  have st : Stays (Own kd OC σ) (Own kd OC' σ) H H' := fun b o hb hn => ⟨k b o hb fun z => hn (io_own z), sub b o hb hn⟩
  cases kn with
  | io => exact absurd rfl hk
  | val => exact ⟨p.1, p.2.1, p.2.2.mono st⟩
  | loc =>
    obtain ⟨a, l, xs, e1, e2, e3, e4, hH, n0, no, r, na⟩ := p
    exact ⟨a, l, xs, e1, e2, e3, e4, k a _ hH fun ⟨j, hj, ha⟩ => na j (.inr hj) ha, n0, no, r.mono st, na⟩
theorem PendC.set {kn : Kind} {OC OC' : AS} {H01 : Hp} {d : D} {v w : V} {j : Nat} (hk : kn ≠ .io) (p : PendC K kd kn O0 H0 O1 H01 OC σ d v H) (sub : ∀ b, Own kd OC' (σ.set j (some w)) b → Own kd OC σ b) (hw : ∀ a xs, kn = .loc → H01 = upd H0 a (.lst xs) → isOwn kd j → w ≠ .ref a) : PendC K kd kn O0 H0 O1 H01 OC' (σ.set j (some w)) d v H := by
  have st : Stays (Own kd OC σ) (Own kd OC' (σ.set j (some w))) H H := fun b o hb hn => ⟨hb, fun z => hn (sub b z)⟩
  cases kn with
  | io => exact absurd rfl hk
  | val => exact ⟨p.1, p.2.1, p.2.2.mono st⟩
  | loc =>
    obtain ⟨a, l, xs, e1, e2, e3, e4, hH, n0, no, r, na⟩ := p
    refine ⟨a, l, xs, e1, e2, e3, e4, hH, n0, no, r.mono st, fun i hi ha => ?_⟩
    by_cases e : i = j
    · subst e
      unfold At at ha
      by_cases hl : i < σ.length
      · rw [List.getElem?_set_self hl] at ha
        exact hw a xs rfl e4 hi (by cases ha; rfl)
      · rw [List.getElem?_eq_none (by rw [List.length_set]; omega)] at ha; cases ha
    · exact na i hi ((at_set e).mp ha)
/-- a later new list is another one -/
theorem Pend.other {kn2 : Kind} {i : Nat} {O2 : AS} {H01 H02 : Hp} {d2 : D} {w : V} (hk : kd[i]? = some kn2) (h2 : kn2 ≠ .io) (p : Pend K kd kn2 O1 H01 O2 H02 σ d2 w H) {a : Addr} (h : ∃ o, H01 a = some o) (ho : isOwn kd i) : w ≠ .ref a := by
  cases kn2 with
  | io => exact absurd rfl h2
  | val => rcases ho with z | z <;> (rw [hk] at z; cases z)
  | loc =>
    obtain ⟨b, l, xs, e1, rfl, e3, e4, hH, n0, no, r, na⟩ := p
    rintro e
    cases e
    obtain ⟨o, h⟩ := h
    rw [n0] at h
    cases h
variable {kn : Kind}
/-- one value of a row -/
theorem item (hk : kn ≠ .io) {e : E} {t : TE} (hio : ioE S.kd e = true) (he : EOk k S X (mdOf kn) e t) {d : LS.D} {Q : VK} (s : SR X.K S.kd O0 H0 env σ H) (h : ev (run S.P k) S.P.gl e env = some (d, env')) (hl : kn = .loc → ∃ l, d = .lst l)
    (q : ∀ (O1 : AS) (H01 : Hp) v H', SR X.K S.kd O1 H01 env' σ H' → Kp S.kd σ H H' → Pend X.K S.kd kn O0 H0 O1 H01 σ d v H' → (∀ b o, H b = some o → ¬ Own S.kd O0 σ b → ¬ Own S.kd O1 σ b) → Q v H') : t σ H Q := by
  cases kn with
  | io => exact absurd rfl hk
  | val =>
    refine he O0 H0 env σ H d env' _ s h (fun z => by cases z) fun v H' s' kp r => ?_
    exact q O0 H0 v H' s' kp ⟨rfl, rfl, r⟩ fun _ _ _ n => n
  | loc =>
    refine he O0 H0 env σ H d env' _ s h (fun _ => hl rfl) fun v H' s' kp r => ?_
    obtain ⟨a, xs, rfl, n, s2, p⟩ := pend_own s s' kp (ev_same hio h) r
    exact q _ _ _ H' s2 kp p fun b o hb hn z => (own_more.mp z).elim hn fun e => by subst e; rw [n] at hb; cases hb
theorem kn_of {b : Bool} : (if b then Kind.loc else Kind.val) ≠ .io := by cases b <;> decide
theorem lst_of {b : Bool} {d : LS.D} (h : ¬ (b && !isLstD d) = true) : (if b then Kind.loc else Kind.val) = .loc → ∃ l, d = .lst l := by
  cases b with
  | false => intro z; cases z
  | true =>
    intro _
    cases d <;> first | exact ⟨_, rfl⟩ | exact absurd rfl h
theorem s_par2 (c : Ctx k S X) {i j : Nat} {b1 b2 : Bool} {e1 e2 : E} {x y : Str} {px py pt pt2 pos : Pos} {kt k2 : Nat} {a1 a2 : Expr} (hi : S.N[i]? = some x) (hj : S.N[j]? = some y) (hij : i ≠ j) (hk1 : S.kd[i]? = some (if b1 then .loc else .val)) (hk2 : S.kd[j]? = some (if b2 then .loc else .val))
    (hlx : isPlain S.sc x = true) (hly : isPlain S.sc y = true) (hw : swSome S.sc (.Tuple [.Name x px, .Name y py] kt pt) (.Tuple [a1, a2] k2 pt2) = true) (hs1 : noStar a1 = true) (hs2 : noStar a2 = true) (io1 : ioE S.kd e1 = true) (io2 : ioE S.kd e2 = true)
    (h1 : SndE k S X (mdOf (if b1 then .loc else .val)) e1 a1) (h2 : SndE k S X (mdOf (if b2 then .loc else .val)) e2 a2) : SndS k S X fr (.par [(i, b1), (j, b2)] (.cons e1 (.cons e2 .nil))) (.Assign [.Tuple [.Name x px, .Name y py] kt pt] (.Tuple [a1, a2] k2 pt2) pos) := by
  obtain ⟨t1, p1, ee1⟩ := h1
  obtain ⟨t2, p2, ee2⟩ := h2
  have pl : ∀ {z : Str}, isPlain S.sc z = true → X.env.scope.names.lookup z = some .local := fun {z} h => by
    rw [c.sc]
    unfold isPlain at h
    split at h
    · assumption
    · cases h
  refine ⟨_, ps_par c.cm (by rw [c.N]; exact c.nd) (by rw [c.N]; exact hi) (by rw [c.N]; exact hj) hij (pl hlx) (pl hly) (pa_cons p1 (pa_cons p2 pa_nil (star1 hs2)) (star1 hs1)) (swSome2 (by rw [c.sc]; exact c.kf) (by rw [c.sc]; exact hw)) rfl, fun O0 H0 env σ H fl env' D s h f => ?_⟩
  unfold exS at h
  obtain ⟨⟨ds, en⟩, g0, h⟩ := bindS h
  obtain ⟨en9, g9, h9⟩ := Option.map_eq_some_iff.mp h
  cases h9
  unfold evL at g0
  obtain ⟨⟨d1, en1⟩, g1, g0⟩ := bindS g0
  obtain ⟨⟨ds1, en2⟩, g2, g3⟩ := Option.map_eq_some_iff.mp g0
  cases g3
  unfold evL at g2
  obtain ⟨⟨d2, en3⟩, g4, g2⟩ := bindS g2
  obtain ⟨⟨ds2, en4⟩, g5, g6⟩ := Option.map_eq_some_iff.mp g2
  cases g6
  unfold evL at g5
  cases g5
  dsimp only at g9
  unfold parF at g9
  split at g9
  · cases g9
  rename_i l1
  unfold parF at g9
  split at g9
  · cases g9
  rename_i l2
  unfold parF at g9
  cases g9
  refine item kn_of io1 ee1 s g1 (lst_of l1) fun O1 H01 v H1 s1 kp1 q1 u1 => ?_
  refine item kn_of io2 ee2 s1 g4 (lst_of l2) fun O2 H02 w H2 s2 kp2 q2 u2 => ?_
  obtain ⟨s3, sub2⟩ := s2.settle hk2 kn_of q2
  have p1' := ((q1.c.up kn_of kp2 u2).set kn_of sub2 fun a xs _ e4 ho => q2.other hk2 kn_of (by rw [e4]; exact ⟨_, upd_same⟩) ho).p
  obtain ⟨s4, sub1⟩ := s3.settle hk1 kn_of p1'
  rw [List.set_comm _ _ (Ne.symm hij), List.set_comm _ _ (Ne.symm hij)] at s4
  rw [List.set_comm _ _ (Ne.symm hij)] at sub1
  refine ⟨v, w, rfl, f.nx s4 ⟨fun b o hb hn => ⟨?_, fun z => ?_⟩, fun n hn => ?_⟩⟩
  · have n1 : ¬ Io S.kd σ b := fun z => hn (io_own z)
    exact kp2 b o (kp1 b o hb n1) n1
  · have n1 : ¬ Io S.kd σ b := fun z => hn (io_own z)
    exact u2 b o (kp1 b o hb n1) (u1 b o hb hn) (sub2 b (sub1 b z))
  · rw [List.getElem?_set_ne fun e => by subst e; rw [hk2] at hn; exact kn_of (Option.some.inj hn), List.getElem?_set_ne fun e => by subst e; rw [hk1] at hn; exact kn_of (Option.some.inj hn)]
theorem s_parT2 (c : Ctx k S X) {i j : Nat} {b1 b2 : Bool} {e1 e2 : E} {x y : Str} {px py pt pt2 pos : Pos} {kt k2 : Nat} {a1 a2 : Expr} (hx : S.st i x = true) (hy : S.st j y = true) (hij : i ≠ j) (hk1 : S.kd[i]? = some (if b1 then .loc else .val)) (hk2 : S.kd[j]? = some (if b2 then .loc else .val))
    (hw : swNone S.sc (.Tuple [.Name x px, .Name y py] kt pt) (.Tuple [a1, a2] k2 pt2) = true) (hv : swV S.sc (.Tuple [.Name x px, .Name y py] kt pt) (.Tuple [a1, a2] k2 pt2) = false) (hs1 : noStar a1 = true) (hs2 : noStar a2 = true) (io1 : ioE S.kd e1 = true) (io2 : ioE S.kd e2 = true)
    (h1 : SndE k S X (mdOf (if b1 then .loc else .val)) e1 a1) (h2 : SndE k S X (mdOf (if b2 then .loc else .val)) e2 a2) : SndS k S X fr (.par [(i, b1), (j, b2)] (.cons e1 (.cons e2 .nil))) (.Assign [.Tuple [.Name x px, .Name y py] kt pt] (.Tuple [a1, a2] k2 pt2) pos) := by
  obtain ⟨t1, p1, ee1⟩ := h1
  obtain ⟨t2, p2, ee2⟩ := h2
  obtain ⟨n1, l1, f1⟩ := st_of c hx
  obtain ⟨n2, l2, f2⟩ := st_of c hy
  have nd : X.N.Nodup := by rw [c.N]; exact c.nd
  refine ⟨_, ps_asg (pe_tup (pa_cons p1 (pa_cons p2 pa_nil (star1 hs2)) (star1 hs1))) (pg_tup c.cm (pgs_cons (pg_name (pos := px) nd n1 l1 f1) (pgs_cons (pg_name (pos := py) nd n2 l2 f2) pgs_nil (by rw [asg1 (by rfl)]; rfl)) (by rw [asg1 (by rfl)]; rfl)) rfl rfl) (by rw [show swapsWithSole [.Tuple [.Name x px, .Name y py] kt pt] (.Tuple [a1, a2] k2 pt2) pos.line X.env = swapsWith (.Tuple [a1, a2] k2 pt2) (some (.Tuple [.Name x px, .Name y py] kt pt)) pos.line X.env from rfl, swV_ok (by rw [c.sc]; exact c.kf), c.sc, hv]) (swNone_ok (by rw [c.sc]; exact hw)) (by rw [asg1 (by rfl)]; rfl), fun O0 H0 env σ H fl env' D s h f => ?_⟩
  unfold exS at h
  obtain ⟨⟨ds, en⟩, g0, h⟩ := bindS h
  obtain ⟨en9, g9, h9⟩ := Option.map_eq_some_iff.mp h
  cases h9
  unfold evL at g0
  obtain ⟨⟨d1, en1⟩, g1, g0⟩ := bindS g0
  obtain ⟨⟨ds1, en2⟩, g2, g3⟩ := Option.map_eq_some_iff.mp g0
  cases g3
  unfold evL at g2
  obtain ⟨⟨d2, en3⟩, g4, g2⟩ := bindS g2
  obtain ⟨⟨ds2, en4⟩, g5, g6⟩ := Option.map_eq_some_iff.mp g2
  cases g6
  unfold evL at g5
  cases g5
  dsimp only at g9
  unfold parF at g9
  split at g9
  · cases g9
  rename_i l1
  unfold parF at g9
  split at g9
  · cases g9
  rename_i l2
  unfold parF at g9
  cases g9
  refine item kn_of io1 ee1 s g1 (lst_of l1) fun O1 H01 v H1 s1 kp1 q1 u1 => ?_
  refine item kn_of io2 ee2 s1 g4 (lst_of l2) fun O2 H02 w H2 s2 kp2 q2 u2 => ?_
  refine ⟨by show 2 ≤ sizeLine; decide, fun p n => ?_⟩
  have s2' := s2.laid (o := .tup [v, w]) n
  have q2' := (q2.c.up kn_of (Kp.laid (o := .tup [v, w]) n) (fun _ _ _ z => z)).p
  obtain ⟨s3, sub2⟩ := s2'.settle hk2 kn_of q2'
  have p1' := (((q1.c.up kn_of kp2 u2).up kn_of (Kp.laid (o := .tup [v, w]) n) (fun _ _ _ z => z)).set kn_of sub2 fun a xs _ e4 ho => q2'.other hk2 kn_of (by rw [e4]; exact ⟨_, upd_same⟩) ho).p
  obtain ⟨s4, sub1⟩ := s3.settle hk1 kn_of p1'
  rw [List.set_comm _ _ (Ne.symm hij), List.set_comm _ _ (Ne.symm hij)] at s4
  rw [List.set_comm _ _ (Ne.symm hij)] at sub1
  refine ⟨p, [v, w], rfl, .inl (.inl upd_same), rfl, v, [w], rfl, w, [], rfl, rfl, f.nx s4 ⟨fun b o hb hn => ⟨?_, fun z => ?_⟩, fun m hm => ?_⟩⟩
  · have n1 : ¬ Io S.kd σ b := fun z => hn (io_own z)
    exact upd_keeps n b o (kp2 b o (kp1 b o hb n1) n1)
  · have n1 : ¬ Io S.kd σ b := fun z => hn (io_own z)
    exact u2 b o (kp1 b o hb n1) (u1 b o hb hn) (sub2 b (sub1 b z))
  · rw [List.getElem?_set_ne fun e => by subst e; rw [hk2] at hm; exact kn_of (Option.some.inj hm), List.getElem?_set_ne fun e => by subst e; rw [hk1] at hm; exact kn_of (Option.some.inj hm)]
theorem s_par3 (c : Ctx k S X) {i j l : Nat} {b1 b2 b3 : Bool} {e1 e2 e3 : E} {x y z : Str} {px py pz pt pt2 pos : Pos} {kt k2 : Nat} {a1 a2 a3 : Expr} (hi : S.N[i]? = some x) (hj : S.N[j]? = some y) (hl : S.N[l]? = some z) (hij : i ≠ j) (hil : i ≠ l) (hjl : j ≠ l)
    (hk1 : S.kd[i]? = some (if b1 then .loc else .val)) (hk2 : S.kd[j]? = some (if b2 then .loc else .val)) (hk3 : S.kd[l]? = some (if b3 then .loc else .val))
    (hlx : isPlain S.sc x = true) (hly : isPlain S.sc y = true) (hlz : isPlain S.sc z = true) (hw : swSome S.sc (.Tuple [.Name x px, .Name y py, .Name z pz] kt pt) (.Tuple [a1, a2, a3] k2 pt2) = true) (hs1 : noStar a1 = true) (hs2 : noStar a2 = true) (hs3 : noStar a3 = true) (io1 : ioE S.kd e1 = true) (io2 : ioE S.kd e2 = true) (io3 : ioE S.kd e3 = true)
    (h1 : SndE k S X (mdOf (if b1 then .loc else .val)) e1 a1) (h2 : SndE k S X (mdOf (if b2 then .loc else .val)) e2 a2) (h3 : SndE k S X (mdOf (if b3 then .loc else .val)) e3 a3) : SndS k S X fr (.par [(i, b1), (j, b2), (l, b3)] (.cons e1 (.cons e2 (.cons e3 .nil)))) (.Assign [.Tuple [.Name x px, .Name y py, .Name z pz] kt pt] (.Tuple [a1, a2, a3] k2 pt2) pos) := by
  obtain ⟨t1, p1, ee1⟩ := h1
  obtain ⟨t2, p2, ee2⟩ := h2
  obtain ⟨t3, p3, ee3⟩ := h3
  have pl : ∀ {z : Str}, isPlain S.sc z = true → X.env.scope.names.lookup z = some .local := fun {z} h => by
    rw [c.sc]
    unfold isPlain at h
    split at h
    · assumption
    · cases h
  refine ⟨_, ps_par3 c.cm (by rw [c.N]; exact c.nd) (by rw [c.N]; exact hi) (by rw [c.N]; exact hj) (by rw [c.N]; exact hl) hij hil hjl (pl hlx) (pl hly) (pl hlz) (pa_cons p1 (pa_cons p2 (pa_cons p3 pa_nil (star1 hs3)) (star1 hs2)) (star1 hs1)) (swSome3 (by rw [c.sc]; exact c.kf) (by rw [c.sc]; exact hw)) rfl, fun O0 H0 env σ H fl env' D s h f => ?_⟩
  unfold exS at h
  obtain ⟨⟨ds, en⟩, g0, h⟩ := bindS h
  obtain ⟨en9, g9, h9⟩ := Option.map_eq_some_iff.mp h
  cases h9
  unfold evL at g0
  obtain ⟨⟨d1, en1⟩, g1, g0⟩ := bindS g0
  obtain ⟨⟨ds1, en2⟩, g2, g3⟩ := Option.map_eq_some_iff.mp g0
  cases g3
  unfold evL at g2
  obtain ⟨⟨d2, en3⟩, g4, g2⟩ := bindS g2
  obtain ⟨⟨ds2, en4⟩, g5, g6⟩ := Option.map_eq_some_iff.mp g2
  cases g6
  unfold evL at g5
  obtain ⟨⟨d3, en5⟩, g7, g5⟩ := bindS g5
  obtain ⟨⟨ds3, en6⟩, g8, g10⟩ := Option.map_eq_some_iff.mp g5
  cases g10
  unfold evL at g8
  cases g8
  dsimp only at g9
  unfold parF at g9
  split at g9
  · cases g9
  rename_i l1
  unfold parF at g9
  split at g9
  · cases g9
  rename_i l2
  unfold parF at g9
  split at g9
  · cases g9
  rename_i l3
  unfold parF at g9
  cases g9
  refine item kn_of io1 ee1 s g1 (lst_of l1) fun O1 H01 v H1 s1 kp1 q1 u1 => ?_
  refine item kn_of io2 ee2 s1 g4 (lst_of l2) fun O2 H02 w H2 s2 kp2 q2 u2 => ?_
  refine item kn_of io3 ee3 s2 g7 (lst_of l3) fun O3 H03 u H3 s3 kp3 q3 u3 => ?_
  obtain ⟨s4, sub3⟩ := s3.settle hk3 kn_of q3
  have p2' := ((q2.c.up kn_of kp3 u3).set kn_of sub3 fun a xs _ e4 ho => q3.other hk3 kn_of (by rw [e4]; exact ⟨_, upd_same⟩) ho)
  have keep1 : ∀ a xs, H01 = upd H0 a (.lst xs) → ∃ o, H02 a = some o := fun a xs e => by
    cases b2 with
    | false =>
      obtain ⟨_, e2, _⟩ := q2
      rw [e2, e]
      exact ⟨_, upd_same⟩
    | true =>
      obtain ⟨a2, l2, xs2, _, _, _, e2, _⟩ := q2
      by_cases z : a = a2
      · rw [e2, z]; exact ⟨_, upd_same⟩
      · rw [e2, upd_ne z, e]; exact ⟨_, upd_same⟩
  have u23 : ∀ b o, H2 b = some o → ¬ Own S.kd O2 σ b → ¬ Own S.kd O3 σ b := u3
  have p1' := ((q1.c.up kn_of kp2 u2).up kn_of kp3 u3).set (OC' := O2) kn_of sub3 fun a xs _ e4 ho => q3.other hk3 kn_of (keep1 a xs e4) ho
  obtain ⟨s5, sub2⟩ := s4.settle hk2 kn_of p2'.p
  have p1'' := (p1'.set kn_of sub2 fun a xs _ e4 ho => p2'.p.other hk2 kn_of (by rw [e4]; exact ⟨_, upd_same⟩) ho).p
  obtain ⟨s6, sub1⟩ := s5.settle hk1 kn_of p1''
  have ec : ∀ {α : Type} (t : List (Option α)) (p q r : Option α), ((t.set l r).set j q).set i p = ((t.set i p).set j q).set l r := fun t p q r => by
    rw [List.set_comm _ _ (Ne.symm hij), List.set_comm _ _ (Ne.symm hil), List.set_comm _ _ (Ne.symm hjl)]
  rw [ec, ec] at s6
  rw [ec] at sub1
  refine ⟨v, w, u, rfl, f.nx s6 ⟨fun b o hb hn => ⟨?_, fun z => ?_⟩, fun n hn => ?_⟩⟩
  · have n1 : ¬ Io S.kd σ b := fun z => hn (io_own z)
    exact kp3 b o (kp2 b o (kp1 b o hb n1) n1) n1
  · have n1 : ¬ Io S.kd σ b := fun z => hn (io_own z)
    exact u3 b o (kp2 b o (kp1 b o hb n1) n1) (u2 b o (kp1 b o hb n1) (u1 b o hb hn)) (sub3 b (sub2 b (sub1 b z)))
  · rw [List.getElem?_set_ne fun e => by subst e; rw [hk3] at hn; exact kn_of (Option.some.inj hn), List.getElem?_set_ne fun e => by subst e; rw [hk2] at hn; exact kn_of (Option.some.inj hn), List.getElem?_set_ne fun e => by subst e; rw [hk1] at hn; exact kn_of (Option.some.inj hn)]

/-! ### loops -/
theorem s_whl (c : Ctx k S X) {cd : E} {b : SL} {c' : Expr} {sb : List Stmt} {pos : Pos} (hc : SndB k S X cd c') (hb : SndSL k S X fr b sb) : SndS k S X fr (.whl cd b) (.While c' sb [] pos) := by
  obtain ⟨tc, pc, ec⟩ := hc
  obtain ⟨tb, pb, eb⟩ := hb
  refine ⟨_, ps_while (by rw [c.xe]; exact PassesOwn.never) pc pb, fun O0 H0 env σ H fl env' D s h f => ?_⟩
  unfold exS at h
  obtain ⟨n, hn⟩ := whL_some h
  let W : Nat → L2.St → Hp → Prop := fun m σ' H' => ∃ e, SR X.K S.kd O0 H0 e σ' H' ∧ Thru S.kd O0 σ H σ' H' ∧ whN (fun e => tst (run S.P k) S.P.gl cd e) (fun e => exL (run S.P k) S.P.gl b e) m e = some (fl, env')
  refine ⟨W, ⟨n, env, s, .refl, hn⟩, ?_⟩
  rintro m σ1 H1 ⟨e, s1, t1, h1⟩
  cases m with
  | zero => cases h1
  | succ m =>
    unfold whN at h1
    obtain ⟨⟨q, e1⟩, g1, h1⟩ := bindS h1
    refine ec O0 H0 e σ1 H1 q e1 _ s1 g1 fun H2 s2 k2 => ?_
    cases q with
    | false =>
      simp only [Bool.false_eq_true, if_false] at h1 ⊢
      cases h1
      exact f.nx s2 (t1.trans (.kp k2))
    | true =>
      simp only [if_true] at h1 ⊢
      obtain ⟨⟨fl2, e2⟩, g2, h1⟩ := bindS h1
      refine ⟨W m, fun σ' H' w => ⟨m, Nat.lt_succ_self m, w⟩, ?_⟩
      refine eb O0 H0 e1 σ1 H2 fl2 e2 _ s2 g2 ⟨fun e3 σ3 H3 s3 t3 => ?_, fun d e3 v σ3 H3 s3 t3 r1 r2 => ?_⟩
      · subst e3
        exact ⟨e2, s3, (t1.trans (.kp k2)).trans t3, h1⟩
      · subst e3
        cases h1
        exact f.2 d rfl v σ3 H3 s3 ((t1.trans (.kp k2)).trans t3) r1 r2
theorem s_for (c : Ctx k S X) {t : T} {it : I} {b : SL} {tg iter : Expr} {sb : List Stmt} {pos : Pos} (ht : chkT S t tg = true) (hs : noSetE iter = true) (hi : SndI k S X .str it tg iter) (hb : SndSL k S X fr b sb) : SndS k S X fr (.for_ t it b) (.For tg iter sb [] pos) := by
  obtain ⟨g, pg, eg⟩ := snd_g c ht
  obtain ⟨tb, pb, eb⟩ := hb
  obtain ⟨wi, pi, ei⟩ := hi
  refine ⟨_, ps_for (by rw [c.xe]; exact PassesOwn.never) c.cm pi pg pb (noSet_ok hs), fun O0 H0 env σ H fl env' D s h f => ?_⟩
  unfold exS at h
  obtain ⟨⟨ds, en1⟩, a1, h⟩ := bindS h
  refine ei O0 H0 env σ H ds en1 _ s a1 fun J H1 s1 k1 itk => ?_
  obtain ⟨G, Y, w, hG, hY⟩ := itk
  let Pv : Nat → L2.St → Hp → Prop := fun i σ2 H2 => ∃ e, SR X.K S.kd O0 H0 e σ2 H2 ∧ Thru S.kd O0 σ H1 σ2 H2 ∧ forL (fun e => exL (run S.P k) S.P.gl b e) t (ds.drop i) e = some (fl, env')
  have src : ∀ i σ2 H2, Pv i σ2 H2 → Src S.kd O0 σ .str H1 (Own S.kd O0 σ2) H2 := fun i σ2 H2 ⟨e, s2, t2, _⟩ => ⟨s2.olst, t2.1⟩
  refine for_it w Pv ⟨en1, s1, .refl, h⟩ (fun i σ2 H2 _ p => hG _ _ (src i σ2 H2 p)) ?_ ?_
  · intro i x σ2 H2 H3 hlt p hy
    obtain ⟨keep, d, hd, rd⟩ := hY _ H2 i x H3 (src i σ2 H2 p) hy hlt
    obtain ⟨e, s2, t2, hl⟩ := p
    have hdrop : ds.drop i = d :: ds.drop (i + 1) := by
      obtain ⟨hlt', hd'⟩ := List.getElem?_eq_some_iff.mp hd
      rw [← hd', List.drop_eq_getElem_cons hlt']
    rw [hdrop] at hl
    unfold forL at hl
    obtain ⟨e2, a2, hl⟩ := bindS hl
    obtain ⟨⟨fl3, e3⟩, a3, hl⟩ := bindS hl
    have s3 := s2.kept keep
    have t3 : Thru S.kd O0 σ H1 σ2 H3 := t2.trans (.kp fun b o hb _ => keep b o hb)
    refine eg O0 H0 e σ2 H3 d x e2 _ s3 a2 rd fun σ4 s4 o4 => ?_
    have t4 := t3.trans (.off o4)
    refine eb O0 H0 e2 σ4 H3 fl3 e3 _ s4 a3 ⟨fun e5 σ5 H5 s5 t5 => ?_, fun d e5 v σ5 H5 s5 t5 r1 r2 => ?_⟩
    · subst e5
      exact ⟨e3, s5, t4.trans t5, hl⟩
    · subst e5
      cases hl
      exact f.2 d rfl v σ5 H5 s5 ((Thru.kp k1).trans (t4.trans t5)) r1 r2
  · rintro σ9 H9 ⟨e, s9, t9, hl⟩
    rw [List.drop_eq_nil_of_le (Nat.le_refl _)] at hl
    unfold forL at hl
    cases hl
    exact f.nx s9 ((Thru.kp k1).trans t9)
end
end LS
set_option maxHeartbeats 1000000
/-! LsW: the look at statements, and what it says. -/
namespace LS
open PySem PySem.Spec PyProof.Rows L2

def isCmpE : E → Bool
  | .lc _ _ _ _ => true
  | .lcif _ _ _ _ _ => true
  | _ => false
def nameP (f : Str → Bool) : Expr → Bool
  | .Name x _ => f x
  | _ => false
def lineOk (p1 p2 : Pos) : Bool := p1.endLine == p2.line
def chkP2o (S : Sta) (i j : Nat) (b1 b2 : Bool) (e1 e2 : E) : Expr → Expr → Bool
  | .Tuple [.Name x px, .Name y py] kt pt, .Tuple [a1, a2] k2 pt2 =>
      decide (S.N[i]? = some x) && decide (S.N[j]? = some y) && decide (i ≠ j) && decide (S.kd[i]? = some (if b1 then .loc else .val)) && decide (S.kd[j]? = some (if b2 then .loc else .val)) && isPlain S.sc x && isPlain S.sc y &&
      swSome S.sc (.Tuple [.Name x px, .Name y py] kt pt) (.Tuple [a1, a2] k2 pt2) && noStar a1 && noStar a2 && ioE S.kd e1 && ioE S.kd e2 && chk S (mdOf (if b1 then .loc else .val)) e1 a1 && chk S (mdOf (if b2 then .loc else .val)) e2 a2
  | _, _ => false
def chkP2n (S : Sta) (i j : Nat) (b1 b2 : Bool) (e1 e2 : E) : Expr → Expr → Bool
  | .Tuple [.Name x px, .Name y py] kt pt, .Tuple [a1, a2] k2 pt2 =>
      S.st i x && S.st j y && decide (i ≠ j) && decide (S.kd[i]? = some (if b1 then .loc else .val)) && decide (S.kd[j]? = some (if b2 then .loc else .val)) &&
      swNone S.sc (.Tuple [.Name x px, .Name y py] kt pt) (.Tuple [a1, a2] k2 pt2) && !swV S.sc (.Tuple [.Name x px, .Name y py] kt pt) (.Tuple [a1, a2] k2 pt2) && noStar a1 && noStar a2 && ioE S.kd e1 && ioE S.kd e2 && chk S (mdOf (if b1 then .loc else .val)) e1 a1 && chk S (mdOf (if b2 then .loc else .val)) e2 a2
  | _, _ => false
def chkP2 (S : Sta) (i j : Nat) (b1 b2 : Bool) (e1 e2 : E) (tg a : Expr) : Bool := chkP2o S i j b1 b2 e1 e2 tg a || chkP2n S i j b1 b2 e1 e2 tg a
def chkP3 (S : Sta) (i j l : Nat) (b1 b2 b3 : Bool) (e1 e2 e3 : E) : Expr → Expr → Bool
  | .Tuple [.Name x px, .Name y py, .Name z pz] kt pt, .Tuple [a1, a2, a3] k2 pt2 =>
      decide (S.N[i]? = some x) && decide (S.N[j]? = some y) && decide (S.N[l]? = some z) && decide (i ≠ j) && decide (i ≠ l) && decide (j ≠ l) && decide (S.kd[i]? = some (if b1 then .loc else .val)) && decide (S.kd[j]? = some (if b2 then .loc else .val)) && decide (S.kd[l]? = some (if b3 then .loc else .val)) && isPlain S.sc x && isPlain S.sc y && isPlain S.sc z &&
      swSome S.sc (.Tuple [.Name x px, .Name y py, .Name z pz] kt pt) (.Tuple [a1, a2, a3] k2 pt2) && noStar a1 && noStar a2 && noStar a3 && ioE S.kd e1 && ioE S.kd e2 && ioE S.kd e3 && chk S (mdOf (if b1 then .loc else .val)) e1 a1 && chk S (mdOf (if b2 then .loc else .val)) e2 a2 && chk S (mdOf (if b3 then .loc else .val)) e3 a3
  | _, _ => false
def chkP (S : Sta) : List (Nat × Bool) → EL → Expr → Expr → Bool
  | [(i, b1), (j, b2)], .cons e1 (.cons e2 .nil), tg, a => chkP2 S i j b1 b2 e1 e2 tg a
  | [(i, b1), (j, b2), (l, b3)], .cons e1 (.cons e2 (.cons e3 .nil)), tg, a => chkP3 S i j l b1 b2 b3 e1 e2 e3 tg a
  | _, _, _, _ => false
def cAsgT (S : Sta) (e : E) : T → Expr → Expr → Bool
  | .n i, .Name x px, a => S.st i x && decide (S.kd[i]? = some .val) && (if swV S.sc (.Name x px) a then isCmpE e && isPlain S.sc x else true)
  | t, tg, a => chkT S t tg && noStar tg && swNone S.sc tg a && !(swV S.sc tg a)
def cAsg (S : Sta) (t : T) (e : E) : Stmt → Bool
  | .Assign [tg] a _ => chk S .str e a && cAsgT S e t tg a
  | _ => false
def cOwn (S : Sta) (i : Nat) (e : E) : Stmt → Bool
  | .Assign [.Name x px] a _ => chk S .fr e a && S.st i x && decide (S.kd[i]? = some .loc) && ioE S.kd e && (if swV S.sc (.Name x px) a then isCmpE e && isPlain S.sc x else true)
  | _ => false
def cPar (S : Sta) (is : List (Nat × Bool)) (es : EL) : Stmt → Bool
  | .Assign [tg] a _ => chkP S is es tg a
  | _ => false
def cSub (S : Sta) (io : Bool) (i : Nat) (x e : E) : Stmt → Bool
  | .Assign [.Subscript (.Name y _) x' _] a _ => S.nm i y && decide (S.kd[i]? = some (if io then .io else .loc)) && noSlice x' && chk S .vw x x' && chk S .str e a
  | _ => false
def cSubn (S : Sta) (i : Nat) (z : Int) (j : Nat) (e : E) : Stmt → Bool
  | .Assign [.Tuple [.Subscript (.Name x px) x' p2, .Name y py] kt p3] a _ => S.nm i x && decide (S.kd[i]? = some .io) && S.st j y && decide (S.kd[j]? = some .val) && noSlice x' && chk S .vw (.int z) x' && swNone S.sc (.Tuple [.Subscript (.Name x px) x' p2, .Name y py] kt p3) a && chk S .str e a
  | _ => false
def cApp (S : Sta) (i : Nat) (e : E) : Stmt → Bool
  | .Expr (.Call (.Attribute (.Name x _) nm p1) [a] [] p2) _ => S.nm i x && decide (S.kd[i]? = some .loc) && decide (nm = ("append" : Str)) && lineOk p1 p2 && noStar a && chk S .str e a
  | _ => false
def cPop (S : Sta) (i : Nat) : Stmt → Bool
  | .Expr (.Call (.Attribute (.Name x _) nm p1) [] [] p2) _ => S.nm i x && decide (S.kd[i]? = some .loc) && decide (nm = ("pop" : Str)) && lineOk p1 p2
  | _ => false
def cPopT (S : Sta) (t : T) (i : Nat) : Stmt → Bool
  | .Assign [tg] (.Call (.Attribute (.Name x _) nm p1) [] [] p2) _ => chkT S t tg && noStar tg && S.nm i x && decide (S.kd[i]? = some .loc) && decide (nm = ("pop" : Str)) && lineOk p1 p2
  | _ => false
def cEx (S : Sta) (e : E) : Stmt → Bool
  | .Expr a _ => (compScope a).isNone && chk S .vw e a
  | _ => false
def cRet (S : Sta) (fr : Bool) (e : E) : Stmt → Bool
  | .Return (some a) _ => !fr && chk S .str e a
  | _ => false
def cRetF (S : Sta) (e : E) : Stmt → Bool
  | .Return (some a) _ => chk S .fr e a
  | _ => false
def cRetO (S : Sta) (i : Nat) : Stmt → Bool
  | .Return (some (.Name x _)) _ => decide (S.kd[i]? = some .loc) && S.nm i x
  | _ => false
def cRetN (fr : Bool) : Stmt → Bool
  | .Return none _ => !fr
  | _ => false
def cPass : Stmt → Bool
  | .Pass _ => true
  | _ => false
mutual
def chkS (S : Sta) (fr : Bool) : LS.S → Stmt → Bool
  | .asg t e, s => cAsg S t e s
  | .own i e, s => cOwn S i e s
  | .par is es, s => cPar S is es s
  | .sub io i x e, s => cSub S io i x e s
  | .subn i z j e, s => cSubn S i z j e s
  | .app i e, s => cApp S i e s
  | .pop i, s => cPop S i s
  | .popT t i, s => cPopT S t i s
  | .ex e, s => cEx S e s
  | .ifs c a b, s => (match s with | .If c' sa sb _ => chkB S c c' && chkSL S fr a sa && chkSL S fr b sb | _ => false)
  | .whl c b, s => (match s with | .While c' sb [] _ => chkB S c c' && chkSL S fr b sb | _ => false)
  | .for_ t it b, s => (match s with | .For tg iter sb [] _ => chkT S t tg && noSetE iter && chkI S .str it tg iter && chkSL S fr b sb | _ => false)
  | .ret e, s => cRet S fr e s
  | .retF e, s => cRetF S e s
  | .retO i, s => cRetO S i s
  | .retN, s => cRetN fr s
  | .pass, s => cPass s
  | .rais, _ => true
def chkSL (S : Sta) (fr : Bool) : SL → List Stmt → Bool
  | .nil, ss => ss.isEmpty
  | .cons s r, ss => (match ss with | st :: rest => chkS S fr s st && chkSL S fr r rest | [] => false)
end
section
variable {k : Nat}
theorem cmp_some : ∀ {e : E}, isCmpE e = true → (match e with | .lc _ _ _ _ => true | .lcif _ _ _ _ _ => true | _ => false) = true := by
  intro e h
  cases e <;> first | rfl | exact (Bool.false_ne_true h).elim
theorem sw_cases {S : Sta} {X : Cx} (c : Ctx k S X) {m : Md} {e : E} {a : Expr} {x : Str} {px : Pos} (hc : chk S m e a = true) (h : (if swV S.sc (.Name x px) a then isCmpE e && isPlain S.sc x else true) = true) :
    (swV S.sc (.Name x px) a = false ∧ SndE k S X m e a) ∨ (swV S.sc (.Name x px) a = true ∧ isPlain S.sc x = true ∧ SndC k S X m e a) := by
  cases hv : swV S.sc (.Name x px) a with
  | false => exact .inl ⟨rfl, snd_e e c hc⟩
  | true =>
    rw [hv] at h
    simp only [if_true, Bool.and_eq_true] at h
    exact .inr ⟨rfl, h.2, snd_cmpr e c (cmp_some h.1) hc⟩
theorem snd_p2 {S : Sta} {X : Cx} {fr : Bool} (c : Ctx k S X) {i j : Nat} {b1 b2 : Bool} {e1 e2 : E} {tg a : Expr} {pos : Pos} (h : chkP2 S i j b1 b2 e1 e2 tg a = true) : SndS k S X fr (.par [(i, b1), (j, b2)] (.cons e1 (.cons e2 .nil))) (.Assign [tg] a pos) := by
  unfold chkP2 at h
  rw [Bool.or_eq_true] at h
  rcases h with h | h
  · unfold chkP2o at h
    split at h
    · simp only [Bool.and_eq_true, decide_eq_true_eq] at h
      obtain ⟨⟨⟨⟨⟨⟨⟨⟨⟨⟨⟨⟨⟨g1, g2⟩, g3⟩, g4⟩, g5⟩, g6⟩, g7⟩, g8⟩, g9⟩, g10⟩, g11⟩, g12⟩, g13⟩, g14⟩ := h
      exact s_par2 c g1 g2 g3 g4 g5 g6 g7 g8 g9 g10 g11 g12 (snd_e e1 c g13) (snd_e e2 c g14)
    · cases h
  · unfold chkP2n at h
    split at h
    · simp only [Bool.and_eq_true, decide_eq_true_eq, Bool.not_eq_true'] at h
      obtain ⟨⟨⟨⟨⟨⟨⟨⟨⟨⟨⟨⟨g1, g2⟩, g3⟩, g4⟩, g5⟩, g6⟩, g7⟩, g8⟩, g9⟩, g10⟩, g11⟩, g12⟩, g13⟩ := h
      exact s_parT2 c g1 g2 g3 g4 g5 g6 g7 g8 g9 g10 g11 (snd_e e1 c g12) (snd_e e2 c g13)
    · cases h
theorem snd_p3 {S : Sta} {X : Cx} {fr : Bool} (c : Ctx k S X) {i j l : Nat} {b1 b2 b3 : Bool} {e1 e2 e3 : E} {tg a : Expr} {pos : Pos} (h : chkP3 S i j l b1 b2 b3 e1 e2 e3 tg a = true) : SndS k S X fr (.par [(i, b1), (j, b2), (l, b3)] (.cons e1 (.cons e2 (.cons e3 .nil)))) (.Assign [tg] a pos) := by
  unfold chkP3 at h
  split at h
  · simp only [Bool.and_eq_true, decide_eq_true_eq] at h
    obtain ⟨⟨⟨⟨⟨⟨⟨⟨⟨⟨⟨⟨⟨⟨⟨⟨⟨⟨⟨⟨⟨g1, g2⟩, g3⟩, g4⟩, g5⟩, g6⟩, g7⟩, g8⟩, g9⟩, g10⟩, g11⟩, g12⟩, g13⟩, g14⟩, g15⟩, g16⟩, g17⟩, g18⟩, g19⟩, g20⟩, g21⟩, g22⟩ := h
    exact s_par3 c g1 g2 g3 g4 g5 g6 g7 g8 g9 g10 g11 g12 g13 g14 g15 g16 g17 g18 g19 (snd_e e1 c g20) (snd_e e2 c g21) (snd_e e3 c g22)
  · cases h
theorem snd_p {S : Sta} {X : Cx} {fr : Bool} (c : Ctx k S X) {is : List (Nat × Bool)} {es : EL} {tg a : Expr} {pos : Pos} (h : chkP S is es tg a = true) : SndS k S X fr (.par is es) (.Assign [tg] a pos) := by
  unfold chkP at h
  split at h
  · exact snd_p2 c h
  · exact snd_p3 c h
  · cases h
theorem snd_asg {S : Sta} {X : Cx} {fr : Bool} (c : Ctx k S X) {t : T} {e : E} {s : Stmt} (h : cAsg S t e s = true) : SndS k S X fr (.asg t e) s := by
  unfold cAsg at h
  split at h
  · have h := Bool.and_eq_true_iff.mp h
    have h2 := h.2
    unfold cAsgT at h2
    split at h2
    · simp only [Bool.and_eq_true, decide_eq_true_eq] at h2
      obtain ⟨⟨h3, h4⟩, h5⟩ := h2
      exact s_asgN c h3 h4 (sw_cases c h.1 h5)
    · simp only [Bool.and_eq_true, Bool.not_eq_true'] at h2
      obtain ⟨⟨⟨h3, h4⟩, h5⟩, h6⟩ := h2
      exact s_asg c h3 h4 h5 h6 (snd_e e c h.1)
  · cases h
theorem snd_own {S : Sta} {X : Cx} {fr : Bool} (c : Ctx k S X) {i : Nat} {e : E} {s : Stmt} (h : cOwn S i e s = true) : SndS k S X fr (.own i e) s := by
  unfold cOwn at h
  split at h
  · simp only [Bool.and_eq_true, decide_eq_true_eq] at h
    obtain ⟨⟨⟨⟨h1, h2⟩, h3⟩, h4⟩, h5⟩ := h
    exact s_own c h2 h3 h4 (sw_cases c h1 h5)
  · cases h
theorem snd_par {S : Sta} {X : Cx} {fr : Bool} (c : Ctx k S X) {is : List (Nat × Bool)} {es : EL} {s : Stmt} (h : cPar S is es s = true) : SndS k S X fr (.par is es) s := by
  unfold cPar at h
  split at h
  · exact snd_p c h
  · cases h
theorem snd_sub {S : Sta} {X : Cx} {fr : Bool} (c : Ctx k S X) {io : Bool} {i : Nat} {x e : E} {s : Stmt} (h : cSub S io i x e s = true) : SndS k S X fr (.sub io i x e) s := by
  unfold cSub at h
  split at h
  · simp only [Bool.and_eq_true, decide_eq_true_eq] at h
    obtain ⟨⟨⟨⟨h1, h2⟩, h3⟩, h4⟩, h5⟩ := h
    exact s_sub c h1 h2 h3 (snd_e x c h4) (snd_e e c h5)
  · cases h
theorem snd_subn {S : Sta} {X : Cx} {fr : Bool} (c : Ctx k S X) {i j : Nat} {z : Int} {e : E} {s : Stmt} (h : cSubn S i z j e s = true) : SndS k S X fr (.subn i z j e) s := by
  unfold cSubn at h
  split at h
  · simp only [Bool.and_eq_true, decide_eq_true_eq] at h
    obtain ⟨⟨⟨⟨⟨⟨⟨h1, h2⟩, h3⟩, h4⟩, h5⟩, h6⟩, h7⟩, h8⟩ := h
    exact s_subn c h1 h2 h3 h4 h5 h6 h7 (snd_e e c h8)
  · cases h
theorem snd_app {S : Sta} {X : Cx} {fr : Bool} (c : Ctx k S X) {i : Nat} {e : E} {s : Stmt} (h : cApp S i e s = true) : SndS k S X fr (.app i e) s := by
  unfold cApp at h
  split at h
  · simp only [Bool.and_eq_true, decide_eq_true_eq] at h
    obtain ⟨⟨⟨⟨⟨h1, h2⟩, h3⟩, h4⟩, h5⟩, h6⟩ := h
    exact s_app c h1 h2 h3 h4 h5 (snd_e e c h6)
  · cases h
theorem snd_pop {S : Sta} {X : Cx} {fr : Bool} (c : Ctx k S X) {i : Nat} {s : Stmt} (h : cPop S i s = true) : SndS k S X fr (.pop i) s := by
  unfold cPop at h
  split at h
  · simp only [Bool.and_eq_true, decide_eq_true_eq] at h
    obtain ⟨⟨⟨h1, h2⟩, h3⟩, h4⟩ := h
    exact s_pop c h1 h2 h3 h4
  · cases h
theorem snd_popT {S : Sta} {X : Cx} {fr : Bool} (c : Ctx k S X) {t : T} {i : Nat} {s : Stmt} (h : cPopT S t i s = true) : SndS k S X fr (.popT t i) s := by
  unfold cPopT at h
  split at h
  · simp only [Bool.and_eq_true, decide_eq_true_eq] at h
    obtain ⟨⟨⟨⟨⟨h1, h2⟩, h3⟩, h4⟩, h5⟩, h6⟩ := h
    exact s_popT c h1 h2 h3 h4 h5 h6
  · cases h
theorem snd_ex {S : Sta} {X : Cx} {fr : Bool} (c : Ctx k S X) {e : E} {s : Stmt} (h : cEx S e s = true) : SndS k S X fr (.ex e) s := by
  unfold cEx at h
  split at h
  · simp only [Bool.and_eq_true, Option.isNone_iff_eq_none] at h
    exact s_ex h.1 (snd_e e c h.2)
  · cases h
theorem snd_ret {S : Sta} {X : Cx} {fr : Bool} (c : Ctx k S X) {e : E} {s : Stmt} (h : cRet S fr e s = true) : SndS k S X fr (.ret e) s := by
  unfold cRet at h
  split at h
  · simp only [Bool.and_eq_true, Bool.not_eq_true'] at h
    exact s_ret h.1 (snd_e e c h.2)
  · cases h
theorem snd_retF {S : Sta} {X : Cx} {fr : Bool} (c : Ctx k S X) {e : E} {s : Stmt} (h : cRetF S e s = true) : SndS k S X fr (.retF e) s := by
  unfold cRetF at h
  split at h
  · exact s_retF (snd_e e c h)
  · cases h
theorem snd_retO {S : Sta} {X : Cx} {fr : Bool} (c : Ctx k S X) {i : Nat} {s : Stmt} (h : cRetO S i s = true) : SndS k S X fr (.retO i) s := by
  unfold cRetO at h
  split at h
  · simp only [Bool.and_eq_true, decide_eq_true_eq] at h
    exact s_retO c h.1 h.2
  · cases h
theorem snd_retN {S : Sta} {X : Cx} {fr : Bool} {s : Stmt} (h : cRetN fr s = true) : SndS k S X fr .retN s := by
  unfold cRetN at h
  split at h
  · exact s_retN (by simpa using h)
  · cases h
theorem snd_pass {S : Sta} {X : Cx} {fr : Bool} {s : Stmt} (h : cPass s = true) : SndS k S X fr .pass s := by
  unfold cPass at h
  split at h
  · exact s_pass
  · cases h
mutual
theorem snd_s : ∀ (st : LS.S) {S : Sta} {X : Cx} {fr : Bool} {s : Stmt}, Ctx k S X → chkS S fr st s = true → SndS k S X fr st s
  | .asg t e, S, X, fr, s, c, h => snd_asg c (by unfold chkS at h; exact h)
  | .own i e, S, X, fr, s, c, h => snd_own c (by unfold chkS at h; exact h)
  | .par is es, S, X, fr, s, c, h => snd_par c (by unfold chkS at h; exact h)
  | .sub io i x e, S, X, fr, s, c, h => snd_sub c (by unfold chkS at h; exact h)
  | .subn i z j e, S, X, fr, s, c, h => snd_subn c (by unfold chkS at h; exact h)
  | .app i e, S, X, fr, s, c, h => snd_app c (by unfold chkS at h; exact h)
  | .pop i, S, X, fr, s, c, h => snd_pop c (by unfold chkS at h; exact h)
  | .popT t i, S, X, fr, s, c, h => snd_popT c (by unfold chkS at h; exact h)
  | .ex e, S, X, fr, s, c, h => snd_ex c (by unfold chkS at h; exact h)
  | .ifs cd a b, S, X, fr, s, c, h => by
    unfold chkS at h
    split at h
    · simp only [Bool.and_eq_true] at h
      exact s_ifs (snd_b cd c h.1.1).b (snd_blk a c h.1.2) (snd_blk b c h.2)
    · cases h
  | .whl cd b, S, X, fr, s, c, h => by
    unfold chkS at h
    split at h
    · simp only [Bool.and_eq_true] at h
      exact s_whl c (snd_b cd c h.1).b (snd_blk b c h.2)
    · cases h
  | .for_ t it b, S, X, fr, s, c, h => by
    unfold chkS at h
    split at h
    · simp only [Bool.and_eq_true] at h
      obtain ⟨⟨⟨h1, h2⟩, h3⟩, h4⟩ := h
      exact s_for c h1 h2 (snd_i it (by decide) c h3) (snd_blk b c h4)
    · cases h
  | .ret e, S, X, fr, s, c, h => snd_ret c (by unfold chkS at h; exact h)
  | .retF e, S, X, fr, s, c, h => snd_retF c (by unfold chkS at h; exact h)
  | .retO i, S, X, fr, s, c, h => snd_retO c (by unfold chkS at h; exact h)
  | .retN, S, X, fr, s, c, h => snd_retN (by unfold chkS at h; exact h)
  | .pass, S, X, fr, s, c, h => snd_pass (by unfold chkS at h; exact h)
  | .rais, S, X, fr, s, c, h => s_rais
theorem snd_blk : ∀ (st : SL) {S : Sta} {X : Cx} {fr : Bool} {s : List Stmt}, Ctx k S X → chkSL S fr st s = true → SndSL k S X fr st s
  | .nil, S, X, fr, s, c, h => by
    unfold chkSL at h
    cases s with
    | nil => exact s_nil
    | cons _ _ => cases h
  | .cons st r, S, X, fr, s, c, h => by
    unfold chkSL at h
    cases s with
    | nil => cases h
    | cons s ss =>
      have h := Bool.and_eq_true_iff.mp h
      exact s_cons (snd_s st c h.1) (snd_blk r c h.2)
end
end
end LS
set_option maxHeartbeats 1000000
/-! LsX: defs keep their promise; the law's end. -/
namespace LS
open PySem PySem.Spec PyProof.Rows L2

/-! ### the first state of a def -/
section
variable {K : PySem.W.Frag} {O : AS} {H : Hp} {kd : List Kind} {ds : List D} {vs : List V}
theorem arep_len : ∀ {pk : List Kind} {ds : List D} {vs : List V}, ARep K O H pk ds vs → vs.length = ds.length ∧ pk.length = ds.length
  | [], [], vs, h => by unfold ARep at h; subst h; exact ⟨rfl, rfl⟩
  | .io :: ks, d :: ds, vs, h => by
    obtain ⟨a, ns, vr, rfl, _, _, h⟩ := h
    obtain ⟨h1, h2⟩ := arep_len h
    exact ⟨by rw [List.length_cons, List.length_cons, h1], by rw [List.length_cons, List.length_cons, h2]⟩
  | .val :: ks, d :: ds, vs, h => by
    obtain ⟨v, vr, rfl, _, h⟩ := h
    obtain ⟨h1, h2⟩ := arep_len h
    exact ⟨by rw [List.length_cons, List.length_cons, h1], by rw [List.length_cons, List.length_cons, h2]⟩
  | .loc :: _, _ :: _, _, h => h.elim
  | [], _ :: _, _, h => h.elim
  | .io :: _, [], _, h => h.elim
  | .val :: _, [], _, h => h.elim
  | .loc :: _, [], _, h => h.elim
theorem arep_at : ∀ {pk : List Kind} {ds : List D} {vs : List V} {i : Nat} {kn : Kind} {d : D}, ARep K O H pk ds vs → pk[i]? = some kn → ds[i]? = some d →
    (kn = .val → ∃ v, vs[i]? = some v ∧ Rep K O H d v) ∧ (kn = .io → ∃ (a : Addr) (ns : List Int), vs[i]? = some (.ref a) ∧ d = .lst (ns.map D.int) ∧ H a = some (.lst (ns.map V.int))) ∧ kn ≠ .loc
  | [], _, _, _, _, _, _, h2, _ => by simp at h2
  | .io :: ks, d0 :: ds, vs, i, kn, d, h, h2, h3 => by
    obtain ⟨a, ns, vr, rfl, e1, e2, h⟩ := h
    cases i with
    | zero =>
      simp at h2 h3
      subst h2 h3
      exact ⟨(fun z => by cases z), (fun _ => ⟨a, ns, rfl, e1, e2⟩), (fun z => by cases z)⟩
    | succ i =>
      have q := arep_at (i := i) h (by simpa using h2) (by simpa using h3)
      rw [List.getElem?_cons_succ]
      exact q
  | .val :: ks, d0 :: ds, vs, i, kn, d, h, h2, h3 => by
    obtain ⟨v, vr, rfl, e1, h⟩ := h
    cases i with
    | zero =>
      simp at h2 h3
      subst h2 h3
      exact ⟨(fun _ => ⟨v, rfl, e1⟩), (fun z => by cases z), (fun z => by cases z)⟩
    | succ i =>
      have q := arep_at (i := i) h (by simpa using h2) (by simpa using h3)
      rw [List.getElem?_cons_succ]
      exact q
  | .loc :: _, _ :: _, _, _, _, _, h, _, _ => h.elim
  | .io :: _, [], _, _, _, _, h, _, _ => h.elim
  | .val :: _, [], _, _, _, _, h, _, _ => h.elim
  | .loc :: _, [], _, _, _, _, h, _, _ => h.elim
theorem start_at {N : List Str} {i : Nat} {v : V} : (L2.start N vs)[i]? = some (some v) ↔ vs[i]? = some v := by
  unfold L2.start
  by_cases hi : i < vs.length
  · rw [List.getElem?_append_left (by rw [List.length_map]; exact hi), List.getElem?_map]
    simp [hi]
  · rw [List.getElem?_append_right (by rw [List.length_map]; omega), List.getElem?_replicate]
    constructor
    · intro h; split at h <;> cases h
    · intro h; rw [List.getElem?_eq_none (by omega)] at h; cases h
theorem env_at {n i : Nat} {d : D} : (ds.map some ++ List.replicate n none : EnD)[i]? = some (some d) ↔ ds[i]? = some d := by
  by_cases hi : i < ds.length
  · rw [List.getElem?_append_left (by rw [List.length_map]; exact hi), List.getElem?_map]
    simp [hi]
  · rw [List.getElem?_append_right (by rw [List.length_map]; omega), List.getElem?_replicate]
    constructor
    · intro h; split at h <;> cases h
    · intro h; rw [List.getElem?_eq_none (by omega)] at h; cases h
theorem io_start {N : List Str} {n : Nat} (hn : vs.length = n) {b : Addr} : Io kd (L2.start N vs) b ↔ IoV (kd.take n) vs b := by
  constructor
  · rintro ⟨i, hk, ha⟩
    have h := start_at.mp ha
    have hi : i < n := by
      rcases Nat.lt_or_ge i vs.length with z | z
      · omega
      · rw [List.getElem?_eq_none z] at h; cases h
    exact ⟨i, by rw [List.getElem?_take_of_lt hi]; exact hk, h⟩
  · rintro ⟨i, hk, ha⟩
    have hi : i < n := by
      rcases Nat.lt_or_ge i vs.length with z | z
      · omega
      · rw [List.getElem?_eq_none z] at ha; cases ha
    exact ⟨i, by rw [List.getElem?_take_of_lt hi] at hk; exact hk, start_at.mpr ha⟩
theorem sr_start {N : List Str} {n : Nat} (hkl : kd.length = N.length) (hn : n ≤ N.length) (hvn : vs.length = n) (h : ARep K O H (kd.take n) ds vs)
    (hd : ∀ (i j : Nat) (a : Addr), (kd.take n)[i]? = some .io → (kd.take n)[j]? = some .io → vs[i]? = some (.ref a) → vs[j]? = some (.ref a) → i = j)
    (hio : ∀ b, IoV (kd.take n) vs b → O b) (ho : ∀ b, O b → ∃ xs, H b = some (.lst xs)) : SR K kd O H (ds.map some ++ List.replicate (N.length - ds.length) none) (L2.start N vs) H := by
  obtain ⟨l1, l2⟩ := arep_len h
  have lt_of : ∀ {i : Nat} {d : D}, (ds.map some ++ List.replicate (N.length - ds.length) none : EnD)[i]? = some (some d) → i < n := fun {i d} z => by
    have z := env_at.mp z
    rcases Nat.lt_or_ge i ds.length with q | q
    · omega
    · rw [List.getElem?_eq_none q] at z; cases z
  have lt_of2 : ∀ {i : Nat} {v : V}, (L2.start N vs)[i]? = some (some v) → i < n := fun {i v} z => by
    have z := start_at.mp z
    rcases Nat.lt_or_ge i vs.length with q | q
    · omega
    · rw [List.getElem?_eq_none q] at z; cases z
  have own_o : ∀ b, Own kd O (L2.start N vs) b → O b := fun b hb => by
    rcases hb with hb | ⟨i, hi, ha⟩
    · exact hb
    · have hlt := lt_of2 ha
      have hv := start_at.mp ha
      obtain ⟨d, hd⟩ : ∃ d, ds[i]? = some d := ⟨ds[i]'(by omega), by simp [show i < ds.length by omega]⟩
      rcases hi with hi | hi
      · exact absurd rfl (arep_at h (by rw [List.getElem?_take_of_lt hlt]; exact hi) hd).2.2
      · exact hio b ⟨i, by rw [List.getElem?_take_of_lt hlt]; exact hi, hv⟩
  refine ⟨?_, ?_, fun _ _ h _ => h, ho, fun i d h1 h2 => ?_, fun i d h1 h2 => ?_, fun i d h1 h2 => ?_, fun i j a h1 h2 h3 h4 => ?_, fun i v h1 h2 => ?_⟩
  · rw [List.length_append, List.length_map, List.length_replicate]; omega
  · unfold L2.start; rw [List.length_append, List.length_map, List.length_replicate]; omega
  · have hlt := lt_of h2
    obtain ⟨v, hv, r⟩ := (arep_at h (by rw [List.getElem?_take_of_lt hlt]; exact h1) (env_at.mp h2)).1 rfl
    exact ⟨v, start_at.mpr hv, r.mono fun b o hb hn => ⟨hb, fun z => hn (own_o b z)⟩⟩
  · have hlt := lt_of h2
    exact absurd rfl (arep_at h (by rw [List.getElem?_take_of_lt hlt]; exact h1) (env_at.mp h2)).2.2
  · have hlt := lt_of h2
    obtain ⟨a, ns, hv, e1, e2⟩ := (arep_at h (by rw [List.getElem?_take_of_lt hlt]; exact h1) (env_at.mp h2)).2.1 rfl
    exact ⟨a, ns, e1, start_at.mpr hv, e2⟩
  · have l3 := lt_of2 h3
    have l4 := lt_of2 h4
    have kio : ∀ {m : Nat}, m < n → isOwn kd m → (kd.take n)[m]? = some .io := fun {m} hm hk => by
      rw [List.getElem?_take_of_lt hm]
      rcases hk with hk | hk
      · obtain ⟨d, hd⟩ : ∃ d, ds[m]? = some d := ⟨ds[m]'(by omega), by simp [show m < ds.length by omega]⟩
        exact absurd rfl (arep_at h (by rw [List.getElem?_take_of_lt hm]; exact hk) hd).2.2
      · exact hk
    exact hd i j a (kio l3 h1) (kio l4 h2) (start_at.mp h3) (start_at.mp h4)
  · have hlt := lt_of2 h2
    exact ⟨ds[i]'(by omega), env_at.mpr (by simp [show i < ds.length by omega])⟩
/-- what the changed parameters hold at the end -/
theorem orep_end {kd0 : List Kind} {O0 : AS} {H0 H' : Hp} {env' : EnD} {σ' : L2.St} (s : SR K kd0 O0 H0 env' σ' H') : ∀ {pk : List Kind} {vs : List V} {os : List D} {off : Nat} {e : EnD}, (∀ (i : Nat) (kn : Kind), pk[i]? = some kn → kd0[off + i]? = some kn) → (∀ (i : Nat) (x : Option D), e[i]? = some x → env'[off + i]? = some x) →
    (∀ (i : Nat) (a : Addr), pk[i]? = some Kind.io → vs[i]? = some (V.ref a) → At σ' (off + i) a) → (∀ i : Nat, pk[i]? = some Kind.io → ∃ a, vs[i]? = some (V.ref a)) → vs.length = pk.length → (∀ kn ∈ pk, kn ≠ Kind.loc) → outsE pk e = some os → ORep H' pk vs os
  | [], vs, os, off, e, _, _, _, _, _, _, h => by
    unfold outsE at h
    cases h
    unfold ORep
    rfl
  | .loc :: ks, _, _, _, _, _, _, _, _, _, hl, _ => absurd rfl (hl _ List.mem_cons_self)
  | .io :: ks, vs, os, off, e, h1, h2, h3, h4, h5, h6, h => by
    cases vs with
    | nil => cases h5
    | cons v vs =>
      cases e with
      | nil => unfold outsE at h; cases h
      | cons x e =>
        unfold outsE at h
        cases x with
        | none => cases h
        | some d =>
          obtain ⟨os2, g1, rfl⟩ := Option.map_eq_some_iff.mp (show (outsE ks e).map (d :: ·) = some os from h)
          obtain ⟨a, ha⟩ := h4 0 rfl
          have ha : v = .ref a := by simpa using ha
          subst ha
          obtain ⟨b, ns, e1, hb, e2⟩ := s.io off d (h1 0 _ rfl) (h2 0 _ rfl)
          have e3 : At σ' off a := h3 0 a rfl rfl
          cases hb.inj e3
          unfold ORep
          refine ⟨⟨ns, e1, e2⟩, orep_end s (off := off + 1) (fun i kn z => ?_) (fun i x z => ?_) (fun i a z1 z2 => ?_) (fun i z => ?_) (by simpa using h5) (fun kn z => h6 kn (List.mem_cons_of_mem _ z)) g1⟩
          · have := h1 (i + 1) kn (by simpa using z); rwa [show off + 1 + i = off + (i + 1) by omega]
          · have := h2 (i + 1) x (by simpa using z); rwa [show off + 1 + i = off + (i + 1) by omega]
          · have := h3 (i + 1) a (by simpa using z1) (by simpa using z2); rwa [show off + 1 + i = off + (i + 1) by omega]
          · obtain ⟨a, ha⟩ := h4 (i + 1) (by simpa using z); exact ⟨a, by simpa using ha⟩
  | .val :: ks, vs, os, off, e, h1, h2, h3, h4, h5, h6, h => by
    cases vs with
    | nil => cases h5
    | cons v vs =>
      cases e with
      | nil => unfold outsE at h; cases h
      | cons x e =>
        unfold outsE at h
        unfold ORep
        refine orep_end s (off := off + 1) (fun i kn z => ?_) (fun i x z => ?_) (fun i a z1 z2 => ?_) (fun i z => ?_) (by simpa using h5) (fun kn z => h6 kn (List.mem_cons_of_mem _ z)) h
        · have := h1 (i + 1) kn (by simpa using z); rwa [show off + 1 + i = off + (i + 1) by omega]
        · have := h2 (i + 1) x (by simpa using z); rwa [show off + 1 + i = off + (i + 1) by omega]
        · have := h3 (i + 1) a (by simpa using z1) (by simpa using z2); rwa [show off + 1 + i = off + (i + 1) by omega]
        · obtain ⟨a, ha⟩ := h4 (i + 1) (by simpa using z); exact ⟨a, by simpa using ha⟩
end
end LS
set_option maxHeartbeats 1000000
/-! LsY: every def keeps its promise. -/
namespace LS
open PySem PySem.Spec PyProof.Rows L2

/-- what the module's names stand for -/
structure Glob (K : PySem.W.Frag) (mg : Str → Option Value) (Pr : Prg) (gn : Nat → Str) (bl : List Str) (gcd : Bool) : Prop where
  gl : ∀ n d, Pr.gl n = some d → ∃ u v, mg (gn n) = some u ∧ RelV v u ∧ (gn n == ("__debug__" : Str)) = false ∧ ∀ O H, Rep K O H d v
  bl : ∀ x ∈ bl, mg x = none
  gc : gcd = true → mg "gcd" = some (.builtin "math.gcd")
abbrev KwT := List (Str × Nat × List Str × List Nat)
def staOf (Pr : Prg) (gn : Nat → Str) (bl : List Str) (gcd : Bool) (kws : KwT) (F : Fn) (sc : Scope) : Sta := ⟨F.N, sc, fun _ => true, F.kd, Pr, gn, bl, gcd, kws⟩
/-- a def of the text, and its reading -/
structure DOk (K : PySem.W.Frag) (mg : Str → Option Value) (Pr : Prg) (gn : Nat → Str) (bl : List Str) (gcd : Bool) (kws : KwT) (F : Fn) (fa : Addr) (fd : FuncData) (params : Arguments) (body : List Stmt) (scope : Scope) : Prop where
  fn : FunD K F.name F.name params body scope [] [] fa fd
  mg : mg F.name = some (.ref fa)
  bd : Binds K fd F.ps []
  kb : ∀ n names ks, (F.name, n, names, ks) ∈ kws → KB K fd F.ps n names ks
  sc : FnScope F.N F.ps scope
  kl : F.kd.length = F.N.length
  ck : chkSL (staOf Pr gn bl gcd kws F scope) F.fresh F.body body = true
theorem DOk.pl {K : PySem.W.Frag} {mg : Str → Option Value} {Pr : Prg} {gn : Nat → Str} {bl : List Str} {gcd : Bool} {kws : KwT} {F : Fn} {fa : Addr} {fd : FuncData} {params : Arguments} {body : List Stmt} {scope : Scope} (h : DOk K mg Pr gn bl gcd kws F fa fd params body scope) : F.ps.length ≤ F.N.length := by
  have := congrArg List.length h.sc.pre
  rw [List.length_take] at this
  omega
abbrev Knows (P : Program) (w : World) (K : PySem.W.Frag) (mg : Str → Option Value) (base : Heap) (Pr : Prg) (kws : KwT) (k : Nat) : Prop :=
  ∀ f F, Pr.fn f = some F → ∃ fa fd, mg F.name = some (.ref fa) ∧ PySem.W.keepIn K (.ref fa) = true ∧ F.ps.length ≤ F.kd.length ∧ Binds K fd F.ps [] ∧ (∀ n names ks, (F.name, n, names, ks) ∈ kws → KB K fd F.ps n names ks) ∧ FnG P w K mg base k fa fd F.ps (spF K Pr k f F)
theorem sp_len {K : PySem.W.Frag} {Pr : Prg} {k f : Nat} {F : Fn} {vs : List V} {H : Hp} {Q : VK} {E : XK} (h : spF K Pr k f F vs H Q E) : vs.length = F.ps.length := by
  obtain ⟨_, _, _, _, h, _⟩ := h
  exact h
section
variable {P : Program} {w : World} {K : PySem.W.Frag} {mg : Str → Option Value} {base : Heap} {Pr : Prg} {gn : Nat → Str} {bl : List Str} {gcd : Bool} {kws : KwT}
theorem back_inv {fresh : Bool} {r r' : D} {os os' : List D} (h : backF fresh r os = some (r', os')) : r' = r ∧ os' = os ∧ (fresh = true → ∃ l, r = .lst l) := by
  unfold backF at h
  split at h
  · cases h
  · rename_i hc
    cases h
    refine ⟨rfl, rfl, fun z => ?_⟩
    subst z
    cases r <;> first | exact ⟨_, rfl⟩ | exact absurd rfl hc
/-- the body's walk -/
theorem body_ok (G : Glob K mg Pr gn bl gcd) {k f : Nat} (kn : Knows P w K mg base Pr kws k) {F : Fn} (hF : Pr.fn f = some F) {fa : Addr} {fd : FuncData} {params : Arguments} {body : List Stmt} {scope : Scope} (h : DOk K mg Pr gn bl gcd kws F fa fd params body scope)
    {cdv : Value} {A : Around} {outer : List Env} {s : Shared} {H : Hp} {vs : List V} {Q : VK} {E : XK} (hr : Room k (A.deeper (envOfC F.name scope s.heap.objs.size fa cdv))) (hg : A.guards = some []) (hsp : spF K Pr (k + 1) f F vs H Q E) :
    ∃ t, PSs (cxOf (L2.CX P w) P w K mg base F.N F.name scope fa cdv A outer s H E) body t ∧ t { nx := fun _ H' => Q .non H', rt := Q } (L2.start F.N vs) H := by
  let X : Cx := (cxOf (L2.CX P w) P w K mg base F.N F.name scope fa cdv A outer s H E).nox
  have c : Ctx k (staOf Pr gn bl gcd kws F scope) X := ⟨rfl, h.sc.kind, fun _ _ => rfl, rfl, h.sc.nd, h.kl, rfl, hg, hr, rfl, G.gl, G.bl, G.gc, kn⟩
  obtain ⟨ts, ps, ok⟩ := snd_blk F.body c h.ck
  refine ⟨ts, ps.nox, ?_⟩
  obtain ⟨O, ds, r, os, hvl, har, hdj, hio, ho, hrun, hq⟩ := hsp
  have hpl := h.pl
  have s0 : SR K F.kd O H (ds.map some ++ List.replicate (F.N.length - ds.length) none) (L2.start F.N vs) H := sr_start h.kl hpl hvl har hdj hio ho
  unfold run at hrun
  rw [hF] at hrun
  have hrun : (if ds.length = F.ps.length then (exL (run Pr k) Pr.gl F.body (ds.map some ++ List.replicate (F.N.length - ds.length) none)).bind fun p => (outsE F.pk p.2).bind fun os => backF F.fresh (flD p.1) os else none) = some (r, os) := hrun
  split at hrun
  · rename_i hdl
    obtain ⟨⟨fl, e9⟩, g1, hrun⟩ := bindS hrun
    obtain ⟨os', g2, hrun⟩ := bindS hrun
    obtain ⟨e1, e2, hfr⟩ := back_inv hrun
    have g2 : outsE F.pk e9 = some os := by rw [e2]; exact g2
    have pkl : F.pk.length = F.ps.length := by
      unfold Fn.pk
      rw [List.length_take, h.kl]
      omega
    -- what holds of the heap whenever the body ends
    have ends : ∀ σ' H', SR K F.kd O H e9 σ' H' → Thru F.kd O (L2.start F.N vs) H σ' H' → (∀ b o, H b = some o → ¬ IoV F.pk vs b → H' b = some o) ∧ ORep H' F.pk vs os := fun σ' H' s9 t9 => by
      have ioeq : ∀ b, Io F.kd σ' b → Io F.kd (L2.start F.N vs) b := fun b ⟨i, hi, ha⟩ => ⟨i, hi, by unfold At at ha ⊢; rw [← t9.2 i hi]; exact ha⟩
      refine ⟨fun b o hb hn => s9.fr b o hb fun z => hn ((io_start hvl).mp (ioeq b z)), ?_⟩
      refine orep_end s9 (off := 0) (e := e9) (fun i kn z => ?_) (fun i x z => by rw [Nat.zero_add]; exact z) (fun i a z1 z2 => ?_) (fun i z => ?_) (by rw [hvl, pkl]) (fun kn z => ?_) g2
      · rw [Nat.zero_add]
        have hlt : i < F.ps.length := by
          rcases Nat.lt_or_ge i F.pk.length with q | q
          · omega
          · rw [List.getElem?_eq_none q] at z; cases z
        unfold Fn.pk at z
        rw [List.getElem?_take_of_lt hlt] at z
        exact z
      · rw [Nat.zero_add]
        have hlt : i < F.ps.length := by
          rcases Nat.lt_or_ge i F.pk.length with q | q
          · omega
          · rw [List.getElem?_eq_none q] at z1; cases z1
        unfold Fn.pk at z1
        rw [List.getElem?_take_of_lt hlt] at z1
        unfold At
        rw [t9.2 i z1]
        exact start_at.mpr z2
      · have hlt : i < ds.length := by
          rcases Nat.lt_or_ge i F.pk.length with q | q
          · omega
          · rw [List.getElem?_eq_none q] at z; cases z
        obtain ⟨a, _, ha, _⟩ := (arep_at har z (by simp [hlt] : ds[i]? = some ds[i])).2.1 rfl
        exact ⟨a, ha⟩
      · obtain ⟨i, hi⟩ := List.getElem?_of_mem z
        have hlt : i < ds.length := by
          rcases Nat.lt_or_ge i F.pk.length with q | q
          · omega
          · rw [List.getElem?_eq_none q] at hi; cases hi
        exact (arep_at har hi (by simp [hlt] : ds[i]? = some ds[i])).2.2
    refine ok O H _ _ H fl e9 _ s0 g1 ⟨fun e σ' H' s9 t9 => ?_, fun d e v σ' H' s9 t9 r1 r2 => ?_⟩
    · obtain ⟨a1, a2⟩ := ends σ' H' s9 t9
      subst e
      have e1 : r = .non := e1
      refine hq .non H' a1 a2 (by rw [e1]; unfold Rep; rfl) fun z => ?_
      obtain ⟨l, hl⟩ := hfr z
      cases hl
    · obtain ⟨a1, a2⟩ := ends σ' H' s9 t9
      subst e
      have e1 : r = d := e1
      rw [e1] at hq
      exact hq v H' a1 a2 r1 r2
  · cases hrun
/-- a def's promise, over the promises of those it calls -/
theorem fnG_of (G : Glob K mg Pr gn bl gcd) {k f : Nat} (kn : Knows P w K mg base Pr kws k) {F : Fn} (hF : Pr.fn f = some F) {fa : Addr} {fd : FuncData} {params : Arguments} {body : List Stmt} {scope : Scope} (h : DOk K mg Pr gn bl gcd kws F fa fd params body scope) :
    FnG P w K mg base (k + 1) fa fd F.ps (spF K Pr (k + 1) f F) := by
  obtain ⟨oc, od, dV, kV, doc, pm, an, cdv, ct, osl, efd, lk, hcd, _, _⟩ := h.fn.ex
  subst efd
  refine ⟨fun vs H Q E q => sp_len q, fun A outer s H args us vs Q E room grd e0 bnd rel prom => ?_⟩
  have up : ∀ b o, base.get? b = some o → s.heap.get? b = some o := fun b o e => (e0.bs b o e).1
  have kinds : ∀ y ∈ F.ps.zip us, scope.names.lookup y.1 = some .local ∨ (scope.names.lookup y.1 = some .cell ∧ ((cellsFrom (s.heap.objs.size + 1) scope.names []).lookup y.1).isSome = true) := by
    rintro ⟨n, v⟩ hy
    refine (h.sc.par n (List.of_mem_zip hy).1).imp id fun q => ⟨q, ?_⟩
    exact PySem.W.cellsFrom_some scope.names _ _ (.inl q)
  have KX := e0.mod.kin.keeps up
  refine codeAny_call_function room.depth (KX _ _ lk) rfl h.sc.co h.sc.gen rfl (PySem.W.codeRec_of KX hcd) (bnd _ _ _ _ ?_)
  refine wpAny_newFunctionEnv_cells h.sc.kind kinds fun env he s1 inc => ?_
  subst he
  refine ⟨(e0.mod.nolimit.keeps up).keeps inc.toInCall.keep, codeAny_func ?_⟩
  obtain ⟨t, walk, hold⟩ := body_ok (A := A) (outer := outer) (s := s) (cdv := cdv) (E := E) G kn hF h (room.deeper _) grd prom
  have I := inv_start (CX := L2.CX P w) (E := E) (cd := cdv) (f := fa) (qual := F.name) h.sc room.hd e0 (sp_len prom) rel inc
  refine wpAny_mono (walk.run [] s1 _ H _ I hold) (fun fl s' out => ?_) fun _ _ z => z
  cases fl with
  | ret u =>
    obtain ⟨v, σ', H', J, rv, q⟩ := out
    exact ⟨v, H', J.os, J.bare, J.base, J.hok, rv, q⟩
  | next =>
    obtain ⟨σ', H', J, q⟩ := out
    exact ⟨.non, H', J.os, J.bare, J.base, J.hok, rfl, q⟩
  | brk => obtain ⟨_, _, _, q⟩ := out; exact q.elim
  | cont => obtain ⟨_, _, _, q⟩ := out; exact q.elim
theorem all_fns (G : Glob K mg Pr gn bl gcd) (h : ∀ f F, Pr.fn f = some F → ∃ fa fd params body scope, DOk K mg Pr gn bl gcd kws F fa fd params body scope) : ∀ k, Knows P w K mg base Pr kws k
  | 0, f, F, hF => by
    obtain ⟨fa, fd, params, body, scope, d⟩ := h f F hF
    refine ⟨fa, fd, d.mg, d.fn.kp, by rw [d.kl]; exact d.pl, d.bd, d.kb, fun vs H Q E q => sp_len q, fun A outer s H args us vs Q E _ _ _ _ _ prom => ?_⟩
    obtain ⟨_, _, _, _, _, _, _, _, _, hrun, _⟩ := prom
    cases hrun
  | k + 1, f, F, hF => by
    obtain ⟨fa, fd, params, body, scope, d⟩ := h f F hF
    exact ⟨fa, fd, d.mg, d.fn.kp, by rw [d.kl]; exact d.pl, d.bd, d.kb, fnG_of G (all_fns G h k) hF d⟩
end
end LS
set_option maxHeartbeats 1000000
/-! LsZ: the law's end; the hook of facts. -/
namespace LS
open PySem PySem.Spec PyProof.Rows L2

theorem gv_all {K : PySem.W.Frag} {f : D → Value → Bool} (hf : ∀ d u, f d u = true → ∃ v, RelV v u ∧ ∀ O H, Rep K O H d v) : ∀ {l : List D} {us : List Value}, l.length = us.length → ((l.zip us).all fun p => f p.1 p.2) = true → ∃ vs, Vals vs us ∧ ∀ O H, Reps K O H l vs
  | [], [], _, _ => ⟨[], .nil, fun _ _ => .nil⟩
  | d :: l, u :: us, hl, h => by
    rw [List.zip_cons_cons, List.all_cons, Bool.and_eq_true] at h
    obtain ⟨v, r, q⟩ := hf d u h.1
    obtain ⟨vs, rs, qs⟩ := gv_all hf (Nat.succ.inj hl) h.2
    exact ⟨v :: vs, .cons r rs, fun O H => .cons (q O H) (qs O H)⟩
theorem gv_ok {K : PySem.W.Frag} : ∀ (n : Nat) (d : D) (u : Value), gv K n d u = true → ∃ v, RelV v u ∧ ∀ O H, Rep K O H d v
  | 0, _, _, h => by cases h
  | n + 1, .non, u, h => by
    cases u <;> first | exact (Bool.false_ne_true h).elim | skip
    exact ⟨.non, rfl, fun O H => by unfold Rep; rfl⟩
  | n + 1, .bl b, u, h => by
    cases u <;> first | exact (Bool.false_ne_true h).elim | skip
    rename_i c
    have e : b = c := of_decide_eq_true h
    subst e
    exact ⟨.bl b, rfl, fun O H => by unfold Rep; rfl⟩
  | n + 1, .int b, u, h => by
    cases u <;> first | exact (Bool.false_ne_true h).elim | skip
    rename_i c t
    have e : b = c := of_decide_eq_true h
    subst e
    exact ⟨.int b, ⟨t, rfl⟩, fun O H => by unfold Rep; rfl⟩
  | n + 1, .str b, u, h => by
    cases u <;> first | exact (Bool.false_ne_true h).elim | skip
    rename_i c t
    have e : b = c := of_decide_eq_true h
    subst e
    exact ⟨.str b, ⟨t, rfl⟩, fun O H => by unfold Rep; rfl⟩
  | n + 1, .tup l, u, h => by
    cases u <;> first | exact (Bool.false_ne_true h).elim | skip
    rename_i a
    have h : (match K.lookup a with
      | some ⟨.type c, _, .seq its _, _⟩ => decide (c = "tuple") && decide (its.size ≤ sizeLine) && decide (l.length = its.toList.length) && (l.zip its.toList).all fun p => gv K n p.1 p.2
      | _ => false) = true := h
    cases q : K.lookup a with
    | none => rw [q] at h; cases h
    | some o =>
      obtain ⟨oc, od, dt, osl⟩ := o
      rw [q] at h
      cases oc with
      | type c =>
        cases dt with
        | seq its m =>
          have h : (decide (c = "tuple") && decide (its.size ≤ sizeLine) && decide (l.length = its.toList.length) && (l.zip its.toList).all fun p => gv K n p.1 p.2) = true := h
          simp only [Bool.and_eq_true, decide_eq_true_eq] at h
          obtain ⟨⟨⟨h1, h2⟩, h3⟩, h4⟩ := h
          obtain ⟨vs, rs, qs⟩ := gv_all (gv_ok n) h3 h4
          refine ⟨.ref a, rfl, fun O H => ?_⟩
          unfold Rep
          exact ⟨a, vs, rfl, .inr (.inr ⟨_, its, m, q, congrArg Value.type h1, rfl, h2, rs⟩), qs O H⟩
        | _ => cases h
      | _ => cases dt <;> cases h
  | n + 1, .lst _, u, h => by cases h
  | n + 1, .dic _ _, u, h => by cases h
  | n + 1, .ins _ _, u, h => by cases h
  | n + 1, .scr _, u, h => by cases h
theorem val_ok {K : PySem.W.Frag} {h : Heap} {mg : Str → Option Value} (X : K.In h) (G : h.Ns mainGlobals mg) {x : Str} {d : D} (c : (Gf.val x d).ok K = true) : ∃ u v, mg x = some u ∧ RelV v u ∧ ∀ O H, Rep K O H d v := by
  have c : (match PySem.W.nsIn K mainGlobals x with
    | some (some u) => gv K 40 d u
    | _ => false) = true := c
  cases e : PySem.W.nsIn K mainGlobals x with
  | none => rw [e] at c; cases c
  | some o =>
    rw [e] at c
    cases o with
    | none => cases c
    | some u =>
      obtain ⟨v, r, q⟩ := gv_ok 40 d u c
      exact ⟨u, v, PySem.W.mg_of X G e, r, q⟩
theorem blt_ok {K : PySem.W.Frag} {h : Heap} {mg : Str → Option Value} (X : K.In h) (G : h.Ns mainGlobals mg) {x : Str} {y : String} (c : (Gf.blt x y).ok K = true) : mg x = some (.builtin y) := by
  have c : (match PySem.W.nsIn K mainGlobals x with
    | some (some (.builtin z)) => decide (z = y)
    | _ => false) = true := c
  cases e : PySem.W.nsIn K mainGlobals x with
  | none => rw [e] at c; cases c
  | some o =>
    rw [e] at c
    cases o with
    | none => cases c
    | some u =>
      cases u with
      | builtin z =>
        have ez : z = y := of_decide_eq_true c
        subst ez
        exact PySem.W.mg_of X G e
      | _ => cases c
theorem gfs_at {gs : List Gf} {K : PySem.W.Frag} (h : gfs gs K = true) {f : Gf} (hf : f ∈ gs) : f.ok K = true := List.all_eq_true.mp h f hf

/-! ### the law's call -/
theorem only_none {H : Hp} (h : ∀ b, H b ≠ none → False) : Only H := fun b => .inl (by
  cases q : H b with
  | none => rfl
  | some u => exact (h b (by rw [q]; exact fun z => by cases z)).elim)
section
variable {P : Program} {w : World} {K : PySem.W.Frag} {mg mb : Str → Option Value} {k : Nat} {fa a : Addr} {fd : FuncData} {x : Str} {sp : Sp} {s1 : Shared} {vs : List Value} {ns : List Int}
abbrev Done (s1 : Shared) (r : Result) (s2 : Shared) : Prop := r = .ok (.ret (.bool true)) ∧ OldK s1.heap s2.heap ∧ s2.os = s1.os ∧ AllBare s2.gens
/-- from an abstract heap that tracks the script at most -/
theorem law_from (KX : K.In s1.heap) (gns : s1.heap.Ns mainGlobals mg) (bns : s1.heap.Ns builtinsNs mb) (bbt : ∀ y : Str, y ≠ "__name__" → mb y = bootBuiltins y) (lim : s1.heap.NoLimit) (ngen : s1.gens = #[])
    (obj : s1.heap.get? a = some { cls := .type "list", data := .seq vs.toArray }) (room : Room k callerA) (F : ∀ base : Heap, K.In base → base.Ns mainGlobals mg → FnG P w K mg base k fa fd [x] sp) (bnd : ∀ (s : Shared) (u : Value), BindsTo s fd ⟨[u], []⟩ [(x, u)])
    {H : Hp} (only : Only H) (hok : HOk P w H s1.heap) (just : ∀ b, H b ≠ none → b = a) (off : H a ≠ none → K.lookup a = none) (prom : sp [.ref a] H (fun v _ => v = .bl true) E0) :
    codeAny (model P w) callerA (.call (.ref fa) ⟨[.ref a], []⟩) (Done s1) s1 := by
  have away : ∀ {b : Addr} {o : Obj}, s1.heap.get? b = some o → H b = none → (hidT s1.heap H).get? b = some o := fun e n => hidT_get e n
  have dicts : ∀ {b : Addr} {o : Obj} {es : Array DictEntry} {ep : Nat}, s1.heap.get? b = some o → o.data = .dict es ep → H b = none := by
    intro b o es ep e d
    rcases hq : H b with _ | u
    · rfl
    · have eb : b = a := just b (fun z => by rw [hq] at z; cases z)
      rw [eb, obj] at e
      cases e
      cases d
  have spaces : ∀ {b : Addr} {m : Str → Option Value}, s1.heap.Ns b m → (hidT s1.heap H).Ns b m := by
    rintro b m ⟨o, es, ep, e, d, r⟩
    exact ⟨o, es, ep, away e (dicts e d), d, r⟩
  have KB : K.In (hidT s1.heap H) := by
    intro b o e
    refine away (KX b o e) ?_
    rcases hq : H b with _ | u
    · rfl
    · have eb : b = a := just b (fun z => by rw [hq] at z; cases z)
      rw [eb] at e hq
      rw [off (fun z => by rw [hq] at z; cases z)] at e
      cases e
  have md : Mod K mg (hidT s1.heap H) := ⟨KB, spaces gns, ⟨mb, spaces bns, bbt⟩, let ⟨mc, l1, l2⟩ := lim; ⟨mc, spaces l1, l2⟩⟩
  have nofr : ∀ {b : Addr}, b ∉ frs ([] : List Env) := fun z => by cases z
  have start0 : Env0 P w K mg (hidT s1.heap H) callerA [] s1 H := ⟨rfl, md, fun b o e => of_hidT e, Nat.le_of_eq (hidT_size _ _), trivial, fun b z => (nofr z).elim, hok, .of_eq ngen⟩
  refine codeAny_mono ((F _ KB (spaces gns)).go callerA [] s1 H ⟨[.ref a], []⟩ [.ref a] [.ref a] _ _ room rfl start0 (bnd s1 (.ref a)) (.cons rfl .nil) prom) fun r s2 out => ?_
  match r, out with
  | .error e, out =>
    obtain ⟨_, _, _, _, _, _, _, _, _, _, _, _, z⟩ := out
    exact z.elim
  | .ok (.ret u), out =>
    obtain ⟨v, H2, os, bare, un, hok2, rel, q⟩ := out
    have q : v = .bl true := q
    rw [q] at rel
    have eu : u = Value.bool true := rel
    rw [eu]
    refine ⟨rfl, OldK.of_keep fun b o e => ?_, os, bare⟩
    rcases hq : H b with _ | t
    · exact un.keep b o e hq nofr (by simp)
    · rcases only b with z | ⟨ob, xs, z⟩
      · rw [hq] at z; cases z
      · obtain ⟨e1, _⟩ := hok b _ z
        obtain ⟨e2, _⟩ := hok2 b _ (un.frzs b ob _ z)
        rw [e] at e1
        cases e1
        exact e2
/-- the law's def, called with the script -/
theorem law_go (KX : K.In s1.heap) (gns : s1.heap.Ns mainGlobals mg) (bns : s1.heap.Ns builtinsNs mb) (bbt : ∀ y : Str, y ≠ "__name__" → mb y = bootBuiltins y) (lim : s1.heap.NoLimit) (ngen : s1.gens = #[])
    (obj : s1.heap.get? a = some { cls := .type "list", data := .seq vs.toArray }) (hints : IntsAre vs ns) (len : ns.length ≤ sizeLine) (room : Room k callerA) (F : ∀ base : Heap, K.In base → base.Ns mainGlobals mg → FnG P w K mg base k fa fd [x] sp)
    (bnd : ∀ (s : Shared) (u : Value), BindsTo s fd ⟨[u], []⟩ [(x, u)]) (prom : ∀ H : Hp, SqL K H a (ns.map V.int) → sp [.ref a] H (fun v _ => v = .bl true) E0) :
    codeAny (model P w) callerA (.call (.ref fa) ⟨[.ref a], []⟩) (Done s1) s1 := by
  have rv := vals_ints hints
  rcases hk : K.lookup a with _ | o
  · let H : Hp := fun b => if b = a then some (.frz { cls := .type "list", data := .seq vs.toArray } (.lst (ns.map V.int))) else none
    have at_a : H a = some (.frz { cls := .type "list", data := .seq vs.toArray } (.lst (ns.map V.int))) := if_pos rfl
    have else_ : ∀ {b : Addr}, b ≠ a → H b = none := fun h => if_neg h
    have sole : ∀ b, H b ≠ none → b = a := fun b h => Decidable.byContradiction fun n => h (else_ n)
    refine law_from (H := H) KX gns bns bbt lim ngen obj room F bnd (fun b => ?_) (fun b u z => ?_) sole (fun _ => hk) (prom H (.inl (.inr ⟨_, at_a⟩)))
    · by_cases hb : b = a
      · rw [hb]; exact .inr ⟨_, _, at_a⟩
      · exact .inl (else_ hb)
    · have hb : b = a := sole b (by rw [z]; exact fun q => by cases q)
      rw [hb, at_a] at z
      cases z
      rw [hb]
      exact ⟨obj, by rw [List.length_map]; exact len, vs, _, rv, obj⟩
  · -- the module's own object
    have e := KX a o hk
    rw [obj] at e
    cases e
    refine law_from (H := fun _ => none) KX gns bns bbt lim ngen obj room F bnd (fun _ => .inl rfl) (fun b u z => ?_) (fun b z => absurd rfl z) (fun z => absurd rfl z) (prom _ (.inr ⟨_, vs.toArray, _, hk, rfl, rfl, rfl, by rw [List.size_toArray, hints.length]; exact len, by simpa using rv⟩))
    have z : (none : Option HO) = some u := z
    cases z
end
/-- the promise of the law, from its reading -/
theorem sp_law {K : PySem.W.Frag} {Pr : Prg} {k f : Nat} {F : Fn} {a : Addr} {ns : List Int} {H : Hp} (hps : F.ps.length = 1) (hpk : F.pk = [.val]) (hs : SqL K H a (ns.map V.int)) (hrun : run Pr k f [.scr ns] = some (.bl true, [])) : spF K Pr k f F [.ref a] H (fun v _ => v = .bl true) E0 := by
  have none_io : ∀ {b : Addr}, ¬ IoV F.pk [.ref a] b := fun {b} ⟨i, h, _⟩ => by
    rw [hpk] at h
    cases i with
    | zero => simp at h
    | succ i => simp at h
  refine ⟨fun _ => False, [.scr ns], .bl true, [], by rw [hps]; rfl, ?_, fun i j b h1 _ h2 _ => (none_io (b := b) ⟨i, h1, h2⟩).elim, fun b hb => none_io hb, fun _ h => h.elim, hrun, fun v H' _ _ r _ => Rep.scal_bl r⟩
  rw [hpk]
  refine ⟨.ref a, [], rfl, ?_, rfl⟩
  unfold Rep
  refine ⟨a, rfl, ?_⟩
  rcases hs with hs | hs
  · exact .inl ⟨hs, fun z => z⟩
  · exact .inr (.inr hs)
/-! ### tables -/
theorem mem_all {α : Type} {Q : α → Prop} {p : α} {l : List α} (h : Q p) (hr : ∀ q ∈ l, Q q) : ∀ q ∈ p :: l, Q q := fun q hq => (List.mem_cons.mp hq).elim (fun e => e ▸ h) (hr q)
theorem mem_none {α : Type} {Q : α → Prop} : ∀ q ∈ ([] : List α), Q q := fun q hq => by cases hq
theorem mem_app {α : Type} {Q : α → Prop} {l m : List α} (h : ∀ q ∈ l, Q q) (h' : ∀ q ∈ m, Q q) : ∀ q ∈ l ++ m, Q q := fun q hq => (List.mem_append.mp hq).elim (h q) (h' q)
theorem look_mem {α : Type} {n : Nat} {x : α} : ∀ {l : List (Nat × α)}, l.lookup n = some x → (n, x) ∈ l
  | (m, y) :: r, h => by
    rw [List.lookup_cons] at h
    cases e : n == m with
    | true =>
      rw [e] at h
      have := eq_of_beq e
      subst this
      cases h
      exact List.mem_cons_self
    | false =>
      rw [e] at h
      exact List.mem_cons_of_mem _ (look_mem h)
theorem glob_of {K : PySem.W.Frag} {h : Heap} {mg : Str → Option Value} {tbl : List (Nat × Fn)} {gt : GT} {bl : List Str} {gcd : Bool} {fas : List He.Fa} {gs : List Gf} {fn : List He.DefD} (X : K.In h) (G : h.Ns mainGlobals mg) (c : He.SaysD fas fn K) (cg : gfs gs K = true)
    (h1 : gt.all (fun p => decide (p.2.1 ≠ ("__debug__" : Str))) = true) (h2 : ∀ p ∈ gt, Gf.val p.2.1 p.2.2 ∈ gs) (h3 : ∀ x ∈ bl, He.Fa.free x ∈ fas) (h4 : gcd = true → Gf.blt "gcd" "math.gcd" ∈ gs) : Glob K mg (prgOf tbl gt) (gnOf gt) bl gcd := by
  refine ⟨fun n d hd => ?_, fun x hx => ?_, fun z => blt_ok X G (gfs_at cg (h4 z))⟩
  · obtain ⟨⟨x, d'⟩, e1, e2⟩ := Option.map_eq_some_iff.mp (show (gt.lookup n).map (·.2) = some d from hd)
    cases e2
    have hm := look_mem e1
    obtain ⟨u, v, a1, a2, a3⟩ := val_ok X G (gfs_at cg (h2 _ hm))
    have eg : gnOf gt n = x := by unfold gnOf; rw [e1]
    refine ⟨u, v, by rw [eg]; exact a1, a2, ?_, a3⟩
    rw [eg]
    have := of_decide_eq_true (List.all_eq_true.mp h1 _ hm)
    exact beq_eq_false_iff_ne.mpr this
  · obtain ⟨i, hi⟩ := List.getElem?_of_mem (h3 x hx)
    exact He.free_ok X G (c.fact i hi)
abbrev FunT (K : PySem.W.Frag) (F : Fn) (st : Stmt) (fd : FuncData) : Prop := FunD K F.name F.name (defArgs st) (defBody st) (defScope st) [] [] (He.fAd K (F.name, none)) fd
theorem kb_of {K : PySem.W.Frag} {F : Fn} {st : Stmt} {fd : FuncData} (FD : FunT K F st fd) {n : Nat} {names : List Str} {ks : List Nat}
    (h : ∀ (kV doc pm : Value) (an : Option Addr) (cdv ct : Value) (us ws : List Value), us.length = n → ws.length = names.length → ∃ gs, permK (us ++ ws) ks = some gs ∧ bindArgs (PySem.W.fnOf F.name F.name (defArgs st) (defBody st) (defScope st) .none kV doc pm an cdv ct) ⟨us, names.zip ws⟩ = pure (F.ps.zip gs)) : KB K fd F.ps n names ks := by
  obtain ⟨_, _, _, kV, doc, pm, an, cdv, ct, _, efd, _, _, dfl, _⟩ := FD.ex
  intro s us ws _ l1 l2
  obtain ⟨gs, a, b⟩ := h kV doc pm an cdv ct us ws l1 l2
  refine ⟨gs, a, ?_⟩
  rcases dfl with ⟨_, e⟩ | ⟨e, _⟩
  · subst e
    subst efd
    exact .of_eq b
  · exact absurd rfl e
/-- the keyword calls of one def: none, or the list `l` of them -/
theorem kw_all {K : PySem.W.Frag} {fd : FuncData} {F : Fn} {kws : KwT} (l : KwT) (e : kws.filter (fun q => decide (q.1 = F.name)) = l) (h : ∀ q ∈ l, KB K fd F.ps q.2.1 q.2.2.1 q.2.2.2) : ∀ n names ks, (F.name, n, names, ks) ∈ kws → KB K fd F.ps n names ks := fun n names ks hm => by
  have : (F.name, n, names, ks) ∈ l := by
    rw [← e]
    exact List.mem_filter.mpr ⟨hm, decide_eq_true rfl⟩
  exact h _ this
theorem dok_of {K : PySem.W.Frag} {h : Heap} {mg : Str → Option Value} {Pr : Prg} {gn : Nat → Str} {bl : List Str} {gcd : Bool} {kws : KwT} {F : Fn} {st : Stmt} {fas : List He.Fa} {fn : List He.DefD} (X : K.In h) (G : h.Ns mainGlobals mg) (c : He.SaysD fas fn K) (i : Nat) (hi : fn[i]? = some (mkD F st)) (hg : fas[i]? = some (.glo F.name))
    (hb : ∀ fd, FunT K F st fd → Binds K fd F.ps []) (hk : ∀ fd, FunT K F st fd → ∀ n names ks, (F.name, n, names, ks) ∈ kws → KB K fd F.ps n names ks) (hs : C8.scC F.N F.ps (defScope st) = true) (hl : F.kd.length = F.N.length) (hc : chkSL (staOf Pr gn bl gcd kws F (defScope st)) F.fresh F.body (defBody st) = true) :
    ∃ fa fd params body scope, DOk K mg Pr gn bl gcd kws F fa fd params body scope := by
  obtain ⟨fd, FD⟩ := c.def_ i hi
  exact ⟨_, fd, _, _, _, FD, He.glo_ok X G (c.fact i hg), hb fd FD, hk fd FD, C8.fnScope_by hs, hl, hc⟩
end LS
set_option maxHeartbeats 0
namespace LS
open PySem PySem.Spec PyProof.Rows L2
def blN : List Str := ["abs", "all", "bool", "enumerate", "int", "isinstance", "len", "list", "max", "min", "range", "repr", "reversed", "sum", "tuple", "zip"]
def kwN : KwT := [("adams", 0, ["steps"], [0]), ("backward", 0, ["steps"], [0]), ("moulton", 0, ["steps"], [0])]
section
variable {K : PySem.W.Frag} {h : Heap} {mg : Str → Option Value}
theorem dok1 (X : K.In h) (G : h.Ns mainGlobals mg) (c : He.SaysD fas dfs K) : ∃ fa fd params body scope, DOk K mg Pr (gnOf gt) blN true kwN F1 fa fd params body scope :=
  dok_of (st := top 2) X G c 0 rfl rfl (fun fd FD => FD.bindsN fun _ _ _ _ _ _ us hl => match us, hl with | [_], _ => rfl) (fun fd FD => kw_all [] (by decide +kernel) mem_none) (by decide +kernel) rfl (by decide +kernel)
theorem dok2 (X : K.In h) (G : h.Ns mainGlobals mg) (c : He.SaysD fas dfs K) : ∃ fa fd params body scope, DOk K mg Pr (gnOf gt) blN true kwN F2 fa fd params body scope :=
  dok_of (st := top 3) X G c 1 rfl rfl (fun fd FD => FD.bindsN fun _ _ _ _ _ _ us hl => match us, hl with | [_, _], _ => rfl) (fun fd FD => kw_all [] (by decide +kernel) mem_none) (by decide +kernel) rfl (by decide +kernel)
theorem dok3 (X : K.In h) (G : h.Ns mainGlobals mg) (c : He.SaysD fas dfs K) : ∃ fa fd params body scope, DOk K mg Pr (gnOf gt) blN true kwN F3 fa fd params body scope :=
  dok_of (st := top 4) X G c 2 rfl rfl (fun fd FD => FD.bindsN fun _ _ _ _ _ _ us hl => match us, hl with | [_, _, _], _ => rfl) (fun fd FD => kw_all [] (by decide +kernel) mem_none) (by decide +kernel) rfl (by decide +kernel)
theorem dok4 (X : K.In h) (G : h.Ns mainGlobals mg) (c : He.SaysD fas dfs K) : ∃ fa fd params body scope, DOk K mg Pr (gnOf gt) blN true kwN F4 fa fd params body scope :=
  dok_of (st := top 5) X G c 3 rfl rfl (fun fd FD => FD.bindsN fun _ _ _ _ _ _ us hl => match us, hl with | [_], _ => rfl) (fun fd FD => kw_all [] (by decide +kernel) mem_none) (by decide +kernel) rfl (by decide +kernel)
theorem dok5 (X : K.In h) (G : h.Ns mainGlobals mg) (c : He.SaysD fas dfs K) : ∃ fa fd params body scope, DOk K mg Pr (gnOf gt) blN true kwN F5 fa fd params body scope :=
  dok_of (st := top 6) X G c 4 rfl rfl (fun fd FD => FD.bindsN fun _ _ _ _ _ _ us hl => match us, hl with | [_], _ => rfl) (fun fd FD => kw_all [] (by decide +kernel) mem_none) (by decide +kernel) rfl (by decide +kernel)
theorem dok8 (X : K.In h) (G : h.Ns mainGlobals mg) (c : He.SaysD fas dfs K) : ∃ fa fd params body scope, DOk K mg Pr (gnOf gt) blN true kwN F8 fa fd params body scope :=
  dok_of (st := top 7) X G c 5 rfl rfl (fun fd FD => FD.bindsN fun _ _ _ _ _ _ us hl => match us, hl with | [_, _], _ => rfl) (fun fd FD => kw_all [] (by decide +kernel) mem_none) (by decide +kernel) rfl (by decide +kernel)
theorem dok9 (X : K.In h) (G : h.Ns mainGlobals mg) (c : He.SaysD fas dfs K) : ∃ fa fd params body scope, DOk K mg Pr (gnOf gt) blN true kwN F9 fa fd params body scope :=
  dok_of (st := top 11) X G c 6 rfl rfl (fun fd FD => FD.bindsN fun _ _ _ _ _ _ us hl => match us, hl with | [_], _ => rfl) (fun fd FD => kw_all [] (by decide +kernel) mem_none) (by decide +kernel) rfl (by decide +kernel)
theorem dok10 (X : K.In h) (G : h.Ns mainGlobals mg) (c : He.SaysD fas dfs K) : ∃ fa fd params body scope, DOk K mg Pr (gnOf gt) blN true kwN F10 fa fd params body scope :=
  dok_of (st := top 12) X G c 7 rfl rfl (fun fd FD => FD.bindsN fun _ _ _ _ _ _ us hl => match us, hl with | [_, _], _ => rfl) (fun fd FD => kw_all [] (by decide +kernel) mem_none) (by decide +kernel) rfl (by decide +kernel)
theorem dok11 (X : K.In h) (G : h.Ns mainGlobals mg) (c : He.SaysD fas dfs K) : ∃ fa fd params body scope, DOk K mg Pr (gnOf gt) blN true kwN F11 fa fd params body scope :=
  dok_of (st := top 13) X G c 8 rfl rfl (fun fd FD => FD.bindsN fun _ _ _ _ _ _ us hl => match us, hl with | [_, _], _ => rfl) (fun fd FD => kw_all [] (by decide +kernel) mem_none) (by decide +kernel) rfl (by decide +kernel)
theorem dok12 (X : K.In h) (G : h.Ns mainGlobals mg) (c : He.SaysD fas dfs K) : ∃ fa fd params body scope, DOk K mg Pr (gnOf gt) blN true kwN F12 fa fd params body scope :=
  dok_of (st := top 14) X G c 9 rfl rfl (fun fd FD => FD.bindsN fun _ _ _ _ _ _ us hl => match us, hl with | [_, _], _ => rfl) (fun fd FD => kw_all [] (by decide +kernel) mem_none) (by decide +kernel) rfl (by decide +kernel)
theorem dok13 (X : K.In h) (G : h.Ns mainGlobals mg) (c : He.SaysD fas dfs K) : ∃ fa fd params body scope, DOk K mg Pr (gnOf gt) blN true kwN F13 fa fd params body scope :=
  dok_of (st := top 15) X G c 10 rfl rfl (fun fd FD => FD.bindsN fun _ _ _ _ _ _ us hl => match us, hl with | [_, _], _ => rfl) (fun fd FD => kw_all [] (by decide +kernel) mem_none) (by decide +kernel) rfl (by decide +kernel)
theorem dok14 (X : K.In h) (G : h.Ns mainGlobals mg) (c : He.SaysD fas dfs K) : ∃ fa fd params body scope, DOk K mg Pr (gnOf gt) blN true kwN F14 fa fd params body scope :=
  dok_of (st := top 16) X G c 11 rfl rfl (fun fd FD => FD.bindsN fun _ _ _ _ _ _ us hl => match us, hl with | [_, _], _ => rfl) (fun fd FD => kw_all [] (by decide +kernel) mem_none) (by decide +kernel) rfl (by decide +kernel)
theorem dok25 (X : K.In h) (G : h.Ns mainGlobals mg) (c : He.SaysD fas dfs K) : ∃ fa fd params body scope, DOk K mg Pr (gnOf gt) blN true kwN F25 fa fd params body scope :=
  dok_of (st := top 18) X G c 12 rfl rfl (fun fd FD => FD.bindsN fun _ _ _ _ _ _ us hl => match us, hl with | [_], _ => rfl) (fun fd FD => kw_all [] (by decide +kernel) mem_none) (by decide +kernel) rfl (by decide +kernel)
theorem dok26 (X : K.In h) (G : h.Ns mainGlobals mg) (c : He.SaysD fas dfs K) : ∃ fa fd params body scope, DOk K mg Pr (gnOf gt) blN true kwN F26 fa fd params body scope :=
  dok_of (st := top 19) X G c 13 rfl rfl (fun fd FD => FD.bindsN fun _ _ _ _ _ _ us hl => match us, hl with | [_], _ => rfl) (fun fd FD => kw_all [] (by decide +kernel) mem_none) (by decide +kernel) rfl (by decide +kernel)
theorem dok27 (X : K.In h) (G : h.Ns mainGlobals mg) (c : He.SaysD fas dfs K) : ∃ fa fd params body scope, DOk K mg Pr (gnOf gt) blN true kwN F27 fa fd params body scope :=
  dok_of (st := top 20) X G c 14 rfl rfl (fun fd FD => FD.bindsN fun _ _ _ _ _ _ us hl => match us, hl with | [_], _ => rfl) (fun fd FD => kw_all [] (by decide +kernel) mem_none) (by decide +kernel) rfl (by decide +kernel)
theorem dok28 (X : K.In h) (G : h.Ns mainGlobals mg) (c : He.SaysD fas dfs K) : ∃ fa fd params body scope, DOk K mg Pr (gnOf gt) blN true kwN F28 fa fd params body scope :=
  dok_of (st := top 21) X G c 15 rfl rfl (fun fd FD => FD.bindsN fun _ _ _ _ _ _ us hl => match us, hl with | [_, _], _ => rfl) (fun fd FD => kw_all [] (by decide +kernel) mem_none) (by decide +kernel) rfl (by decide +kernel)
theorem dok30 (X : K.In h) (G : h.Ns mainGlobals mg) (c : He.SaysD fas dfs K) : ∃ fa fd params body scope, DOk K mg Pr (gnOf gt) blN true kwN F30 fa fd params body scope :=
  dok_of (st := top 22) X G c 16 rfl rfl (fun fd FD => FD.bindsN fun _ _ _ _ _ _ us hl => match us, hl with | [_, _], _ => rfl) (fun fd FD => kw_all [] (by decide +kernel) mem_none) (by decide +kernel) rfl (by decide +kernel)
theorem dok35 (X : K.In h) (G : h.Ns mainGlobals mg) (c : He.SaysD fas dfs K) : ∃ fa fd params body scope, DOk K mg Pr (gnOf gt) blN true kwN F35 fa fd params body scope :=
  dok_of (st := top 23) X G c 17 rfl rfl (fun fd FD => FD.bindsN fun _ _ _ _ _ _ us hl => match us, hl with | [_], _ => rfl) (fun fd FD => kw_all [] (by decide +kernel) mem_none) (by decide +kernel) rfl (by decide +kernel)
theorem dok300 (X : K.In h) (G : h.Ns mainGlobals mg) (c : He.SaysD fas dfs K) : ∃ fa fd params body scope, DOk K mg Pr (gnOf gt) blN true kwN F300 fa fd params body scope :=
  dok_of (st := top 25) X G c 18 rfl rfl (fun fd FD => FD.bindsN fun _ _ _ _ _ _ us hl => match us, hl with | [_, _], _ => rfl) (fun fd FD => kw_all [] (by decide +kernel) mem_none) (by decide +kernel) rfl (by decide +kernel)
theorem dok301 (X : K.In h) (G : h.Ns mainGlobals mg) (c : He.SaysD fas dfs K) : ∃ fa fd params body scope, DOk K mg Pr (gnOf gt) blN true kwN F301 fa fd params body scope :=
  dok_of (st := top 26) X G c 19 rfl rfl (fun fd FD => FD.bindsN fun _ _ _ _ _ _ us hl => match us, hl with | [_], _ => rfl) (fun fd FD => kw_all [] (by decide +kernel) mem_none) (by decide +kernel) rfl (by decide +kernel)
theorem dok302 (X : K.In h) (G : h.Ns mainGlobals mg) (c : He.SaysD fas dfs K) : ∃ fa fd params body scope, DOk K mg Pr (gnOf gt) blN true kwN F302 fa fd params body scope :=
  dok_of (st := top 27) X G c 20 rfl rfl (fun fd FD => FD.bindsN fun _ _ _ _ _ _ us hl => match us, hl with | [_], _ => rfl) (fun fd FD => kw_all [] (by decide +kernel) mem_none) (by decide +kernel) rfl (by decide +kernel)
theorem dok303 (X : K.In h) (G : h.Ns mainGlobals mg) (c : He.SaysD fas dfs K) : ∃ fa fd params body scope, DOk K mg Pr (gnOf gt) blN true kwN F303 fa fd params body scope :=
  dok_of (st := top 28) X G c 21 rfl rfl (fun fd FD => FD.bindsN fun _ _ _ _ _ _ us hl => match us, hl with | [_, _, _], _ => rfl) (fun fd FD => kw_all [] (by decide +kernel) mem_none) (by decide +kernel) rfl (by decide +kernel)
theorem dok119 (X : K.In h) (G : h.Ns mainGlobals mg) (c : He.SaysD fas dfs K) : ∃ fa fd params body scope, DOk K mg Pr (gnOf gt) blN true kwN F119 fa fd params body scope :=
  dok_of (st := top 29) X G c 22 rfl rfl (fun fd FD => FD.bindsN fun _ _ _ _ _ _ us hl => match us, hl with | [_, _], _ => rfl) (fun fd FD => kw_all [] (by decide +kernel) mem_none) (by decide +kernel) rfl (by decide +kernel)
theorem dok304 (X : K.In h) (G : h.Ns mainGlobals mg) (c : He.SaysD fas dfs K) : ∃ fa fd params body scope, DOk K mg Pr (gnOf gt) blN true kwN F304 fa fd params body scope :=
  dok_of (st := top 30) X G c 23 rfl rfl (fun fd FD => FD.bindsN fun _ _ _ _ _ _ us hl => match us, hl with | [_, _], _ => rfl) (fun fd FD => kw_all [] (by decide +kernel) mem_none) (by decide +kernel) rfl (by decide +kernel)
theorem dok312 (X : K.In h) (G : h.Ns mainGlobals mg) (c : He.SaysD fas dfs K) : ∃ fa fd params body scope, DOk K mg Pr (gnOf gt) blN true kwN F312 fa fd params body scope :=
  dok_of (st := top 31) X G c 24 rfl rfl (fun fd FD => FD.bindsN fun _ _ _ _ _ _ us hl => match us, hl with | [_, _], _ => rfl) (fun fd FD => kw_all [] (by decide +kernel) mem_none) (by decide +kernel) rfl (by decide +kernel)
theorem dok318 (X : K.In h) (G : h.Ns mainGlobals mg) (c : He.SaysD fas dfs K) : ∃ fa fd params body scope, DOk K mg Pr (gnOf gt) blN true kwN F318 fa fd params body scope :=
  dok_of (st := top 32) X G c 25 rfl rfl (fun fd FD => FD.bindsN fun _ _ _ _ _ _ us hl => match us, hl with | [_], _ => rfl) (fun fd FD => kw_all [] (by decide +kernel) mem_none) (by decide +kernel) rfl (by decide +kernel)
theorem dok61 (X : K.In h) (G : h.Ns mainGlobals mg) (c : He.SaysD fas dfs K) : ∃ fa fd params body scope, DOk K mg Pr (gnOf gt) blN true kwN F61 fa fd params body scope :=
  dok_of (st := top 42) X G c 26 rfl rfl (fun fd FD => FD.bindsN fun _ _ _ _ _ _ us hl => match us, hl with | [_], _ => rfl) (fun fd FD => kw_all [] (by decide +kernel) mem_none) (by decide +kernel) rfl (by decide +kernel)
theorem dok66 (X : K.In h) (G : h.Ns mainGlobals mg) (c : He.SaysD fas dfs K) : ∃ fa fd params body scope, DOk K mg Pr (gnOf gt) blN true kwN F66 fa fd params body scope :=
  dok_of (st := top 43) X G c 27 rfl rfl (fun fd FD => FD.bindsN fun _ _ _ _ _ _ us hl => match us, hl with | [_, _], _ => rfl) (fun fd FD => kw_all [] (by decide +kernel) mem_none) (by decide +kernel) rfl (by decide +kernel)
theorem dok67 (X : K.In h) (G : h.Ns mainGlobals mg) (c : He.SaysD fas dfs K) : ∃ fa fd params body scope, DOk K mg Pr (gnOf gt) blN true kwN F67 fa fd params body scope :=
  dok_of (st := top 44) X G c 28 rfl rfl (fun fd FD => FD.bindsN fun _ _ _ _ _ _ us hl => match us, hl with | [_], _ => rfl) (fun fd FD => kw_all [] (by decide +kernel) mem_none) (by decide +kernel) rfl (by decide +kernel)
theorem dok75 (X : K.In h) (G : h.Ns mainGlobals mg) (c : He.SaysD fas dfs K) : ∃ fa fd params body scope, DOk K mg Pr (gnOf gt) blN true kwN F75 fa fd params body scope :=
  dok_of (st := top 46) X G c 29 rfl rfl (fun fd FD => FD.bindsN fun _ _ _ _ _ _ us hl => match us, hl with | [_], _ => rfl) (fun fd FD => kw_all [] (by decide +kernel) mem_none) (by decide +kernel) rfl (by decide +kernel)
theorem dok76 (X : K.In h) (G : h.Ns mainGlobals mg) (c : He.SaysD fas dfs K) : ∃ fa fd params body scope, DOk K mg Pr (gnOf gt) blN true kwN F76 fa fd params body scope :=
  dok_of (st := top 47) X G c 30 rfl rfl (fun fd FD => FD.bindsN fun _ _ _ _ _ _ us hl => match us, hl with | [_], _ => rfl) (fun fd FD => kw_all [] (by decide +kernel) mem_none) (by decide +kernel) rfl (by decide +kernel)
theorem dok77 (X : K.In h) (G : h.Ns mainGlobals mg) (c : He.SaysD fas dfs K) : ∃ fa fd params body scope, DOk K mg Pr (gnOf gt) blN true kwN F77 fa fd params body scope :=
  dok_of (st := top 48) X G c 31 rfl rfl (fun fd FD => FD.bindsN fun _ _ _ _ _ _ us hl => match us, hl with | [_, _, _], _ => rfl) (fun fd FD => kw_all [] (by decide +kernel) mem_none) (by decide +kernel) rfl (by decide +kernel)
theorem dok313 (X : K.In h) (G : h.Ns mainGlobals mg) (c : He.SaysD fas dfs K) : ∃ fa fd params body scope, DOk K mg Pr (gnOf gt) blN true kwN F313 fa fd params body scope :=
  dok_of (st := top 50) X G c 32 rfl rfl (fun fd FD => FD.bindsN fun _ _ _ _ _ _ us hl => match us, hl with | [_, _], _ => rfl) (fun fd FD => kw_all [] (by decide +kernel) mem_none) (by decide +kernel) rfl (by decide +kernel)
theorem dok319 (X : K.In h) (G : h.Ns mainGlobals mg) (c : He.SaysD fas dfs K) : ∃ fa fd params body scope, DOk K mg Pr (gnOf gt) blN true kwN F319 fa fd params body scope :=
  dok_of (st := top 51) X G c 33 rfl rfl (fun fd FD => FD.bindsN fun _ _ _ _ _ _ us hl => match us, hl with | [_], _ => rfl) (fun fd FD => kw_all [("adams", 0, ["steps"], [0])] (by decide +kernel) (mem_all (kb_of FD fun _ _ _ _ _ _ us ws h1 h2 => match us, ws, h1, h2 with | [], [_], _, _ => ⟨_, rfl, rfl⟩) mem_none)) (by decide +kernel) rfl (by decide +kernel)
theorem dok320 (X : K.In h) (G : h.Ns mainGlobals mg) (c : He.SaysD fas dfs K) : ∃ fa fd params body scope, DOk K mg Pr (gnOf gt) blN true kwN F320 fa fd params body scope :=
  dok_of (st := top 52) X G c 34 rfl rfl (fun fd FD => FD.bindsN fun _ _ _ _ _ _ us hl => match us, hl with | [_], _ => rfl) (fun fd FD => kw_all [("moulton", 0, ["steps"], [0])] (by decide +kernel) (mem_all (kb_of FD fun _ _ _ _ _ _ us ws h1 h2 => match us, ws, h1, h2 with | [], [_], _, _ => ⟨_, rfl, rfl⟩) mem_none)) (by decide +kernel) rfl (by decide +kernel)
theorem dok321 (X : K.In h) (G : h.Ns mainGlobals mg) (c : He.SaysD fas dfs K) : ∃ fa fd params body scope, DOk K mg Pr (gnOf gt) blN true kwN F321 fa fd params body scope :=
  dok_of (st := top 53) X G c 35 rfl rfl (fun fd FD => FD.bindsN fun _ _ _ _ _ _ us hl => match us, hl with | [_], _ => rfl) (fun fd FD => kw_all [("backward", 0, ["steps"], [0])] (by decide +kernel) (mem_all (kb_of FD fun _ _ _ _ _ _ us ws h1 h2 => match us, ws, h1, h2 with | [], [_], _, _ => ⟨_, rfl, rfl⟩) mem_none)) (by decide +kernel) rfl (by decide +kernel)
theorem dok150 (X : K.In h) (G : h.Ns mainGlobals mg) (c : He.SaysD fas dfs K) : ∃ fa fd params body scope, DOk K mg Pr (gnOf gt) blN true kwN F150 fa fd params body scope :=
  dok_of (st := top 55) X G c 36 rfl rfl (fun fd FD => FD.bindsN fun _ _ _ _ _ _ us hl => match us, hl with | [_], _ => rfl) (fun fd FD => kw_all [] (by decide +kernel) mem_none) (by decide +kernel) rfl (by decide +kernel)
theorem dok282 (X : K.In h) (G : h.Ns mainGlobals mg) (c : He.SaysD fas dfs K) : ∃ fa fd params body scope, DOk K mg Pr (gnOf gt) blN true kwN F282 fa fd params body scope :=
  dok_of (st := top 56) X G c 37 rfl rfl (fun fd FD => FD.bindsN fun _ _ _ _ _ _ us hl => match us, hl with | [_], _ => rfl) (fun fd FD => kw_all [] (by decide +kernel) mem_none) (by decide +kernel) rfl (by decide +kernel)
theorem dok168 (X : K.In h) (G : h.Ns mainGlobals mg) (c : He.SaysD fas dfs K) : ∃ fa fd params body scope, DOk K mg Pr (gnOf gt) blN true kwN F168 fa fd params body scope :=
  dok_of (st := top 58) X G c 38 rfl rfl (fun fd FD => FD.bindsN fun _ _ _ _ _ _ us hl => match us, hl with | [_, _], _ => rfl) (fun fd FD => kw_all [] (by decide +kernel) mem_none) (by decide +kernel) rfl (by decide +kernel)
theorem dok169 (X : K.In h) (G : h.Ns mainGlobals mg) (c : He.SaysD fas dfs K) : ∃ fa fd params body scope, DOk K mg Pr (gnOf gt) blN true kwN F169 fa fd params body scope :=
  dok_of (st := top 59) X G c 39 rfl rfl (fun fd FD => FD.bindsN fun _ _ _ _ _ _ us hl => match us, hl with | [_, _], _ => rfl) (fun fd FD => kw_all [] (by decide +kernel) mem_none) (by decide +kernel) rfl (by decide +kernel)
theorem dok171 (X : K.In h) (G : h.Ns mainGlobals mg) (c : He.SaysD fas dfs K) : ∃ fa fd params body scope, DOk K mg Pr (gnOf gt) blN true kwN F171 fa fd params body scope :=
  dok_of (st := top 60) X G c 40 rfl rfl (fun fd FD => FD.bindsN fun _ _ _ _ _ _ us hl => match us, hl with | [_, _], _ => rfl) (fun fd FD => kw_all [] (by decide +kernel) mem_none) (by decide +kernel) rfl (by decide +kernel)
theorem dok172 (X : K.In h) (G : h.Ns mainGlobals mg) (c : He.SaysD fas dfs K) : ∃ fa fd params body scope, DOk K mg Pr (gnOf gt) blN true kwN F172 fa fd params body scope :=
  dok_of (st := top 61) X G c 41 rfl rfl (fun fd FD => FD.bindsN fun _ _ _ _ _ _ us hl => match us, hl with | [_, _], _ => rfl) (fun fd FD => kw_all [] (by decide +kernel) mem_none) (by decide +kernel) rfl (by decide +kernel)
theorem dok185 (X : K.In h) (G : h.Ns mainGlobals mg) (c : He.SaysD fas dfs K) : ∃ fa fd params body scope, DOk K mg Pr (gnOf gt) blN true kwN F185 fa fd params body scope :=
  dok_of (st := top 62) X G c 42 rfl rfl (fun fd FD => FD.bindsN fun _ _ _ _ _ _ us hl => match us, hl with | [_, _], _ => rfl) (fun fd FD => kw_all [] (by decide +kernel) mem_none) (by decide +kernel) rfl (by decide +kernel)
theorem dok186 (X : K.In h) (G : h.Ns mainGlobals mg) (c : He.SaysD fas dfs K) : ∃ fa fd params body scope, DOk K mg Pr (gnOf gt) blN true kwN F186 fa fd params body scope :=
  dok_of (st := top 63) X G c 43 rfl rfl (fun fd FD => FD.bindsN fun _ _ _ _ _ _ us hl => match us, hl with | [_, _], _ => rfl) (fun fd FD => kw_all [] (by decide +kernel) mem_none) (by decide +kernel) rfl (by decide +kernel)
theorem dok187 (X : K.In h) (G : h.Ns mainGlobals mg) (c : He.SaysD fas dfs K) : ∃ fa fd params body scope, DOk K mg Pr (gnOf gt) blN true kwN F187 fa fd params body scope :=
  dok_of (st := top 64) X G c 44 rfl rfl (fun fd FD => FD.bindsN fun _ _ _ _ _ _ us hl => match us, hl with | [_, _], _ => rfl) (fun fd FD => kw_all [] (by decide +kernel) mem_none) (by decide +kernel) rfl (by decide +kernel)
theorem dok322 (X : K.In h) (G : h.Ns mainGlobals mg) (c : He.SaysD fas dfs K) : ∃ fa fd params body scope, DOk K mg Pr (gnOf gt) blN true kwN F322 fa fd params body scope :=
  dok_of (st := top 65) X G c 45 rfl rfl (fun fd FD => FD.bindsN fun _ _ _ _ _ _ us hl => match us, hl with | [_, _], _ => rfl) (fun fd FD => kw_all [] (by decide +kernel) mem_none) (by decide +kernel) rfl (by decide +kernel)
theorem dok323 (X : K.In h) (G : h.Ns mainGlobals mg) (c : He.SaysD fas dfs K) : ∃ fa fd params body scope, DOk K mg Pr (gnOf gt) blN true kwN F323 fa fd params body scope :=
  dok_of (st := top 66) X G c 46 rfl rfl (fun fd FD => FD.bindsN fun _ _ _ _ _ _ us hl => match us, hl with | [_, _], _ => rfl) (fun fd FD => kw_all [] (by decide +kernel) mem_none) (by decide +kernel) rfl (by decide +kernel)
theorem dok324 (X : K.In h) (G : h.Ns mainGlobals mg) (c : He.SaysD fas dfs K) : ∃ fa fd params body scope, DOk K mg Pr (gnOf gt) blN true kwN F324 fa fd params body scope :=
  dok_of (st := top 67) X G c 47 rfl rfl (fun fd FD => FD.bindsN fun _ _ _ _ _ _ us hl => match us, hl with | [_, _], _ => rfl) (fun fd FD => kw_all [] (by decide +kernel) mem_none) (by decide +kernel) rfl (by decide +kernel)
theorem dok325 (X : K.In h) (G : h.Ns mainGlobals mg) (c : He.SaysD fas dfs K) : ∃ fa fd params body scope, DOk K mg Pr (gnOf gt) blN true kwN F325 fa fd params body scope :=
  dok_of (st := top 68) X G c 48 rfl rfl (fun fd FD => FD.bindsN fun _ _ _ _ _ _ us hl => match us, hl with | [_], _ => rfl) (fun fd FD => kw_all [] (by decide +kernel) mem_none) (by decide +kernel) rfl (by decide +kernel)
theorem dok326 (X : K.In h) (G : h.Ns mainGlobals mg) (c : He.SaysD fas dfs K) : ∃ fa fd params body scope, DOk K mg Pr (gnOf gt) blN true kwN F326 fa fd params body scope :=
  dok_of (st := top 69) X G c 49 rfl rfl (fun fd FD => FD.bindsN fun _ _ _ _ _ _ us hl => match us, hl with | [_], _ => rfl) (fun fd FD => kw_all [] (by decide +kernel) mem_none) (by decide +kernel) rfl (by decide +kernel)
theorem all_dok (X : K.In h) (G : h.Ns mainGlobals mg) (c : He.SaysD fas dfs K) : ∀ f F, Pr.fn f = some F → ∃ fa fd params body scope, DOk K mg Pr (gnOf gt) blN true kwN F fa fd params body scope := fun f F hF =>
  (show ∀ p ∈ tbl, ∃ fa fd params body scope, DOk K mg Pr (gnOf gt) blN true kwN p.2 fa fd params body scope from (mem_app (mem_all (dok1 X G c) (mem_all (dok2 X G c) (mem_all (dok3 X G c) (mem_all (dok4 X G c) (mem_all (dok5 X G c) (mem_all (dok8 X G c) (mem_all (dok9 X G c) (mem_all (dok10 X G c) (mem_all (dok11 X G c) (mem_all (dok12 X G c) (mem_all (dok13 X G c) (mem_all (dok14 X G c) (mem_all (dok25 X G c) (mem_all (dok26 X G c) (mem_all (dok27 X G c) (mem_all (dok28 X G c) (mem_all (dok30 X G c) (mem_all (dok35 X G c) (mem_all (dok300 X G c) (mem_all (dok301 X G c) (mem_all (dok302 X G c) (mem_all (dok303 X G c) (mem_all (dok119 X G c) (mem_all (dok304 X G c) (mem_all (dok312 X G c) (mem_all (dok318 X G c) (mem_all (dok61 X G c) (mem_all (dok66 X G c) (mem_all (dok67 X G c) (mem_all (dok75 X G c) mem_none)))))))))))))))))))))))))))))) (mem_all (dok76 X G c) (mem_all (dok77 X G c) (mem_all (dok313 X G c) (mem_all (dok319 X G c) (mem_all (dok320 X G c) (mem_all (dok321 X G c) (mem_all (dok150 X G c) (mem_all (dok282 X G c) (mem_all (dok168 X G c) (mem_all (dok169 X G c) (mem_all (dok171 X G c) (mem_all (dok172 X G c) (mem_all (dok185 X G c) (mem_all (dok186 X G c) (mem_all (dok187 X G c) (mem_all (dok322 X G c) (mem_all (dok323 X G c) (mem_all (dok324 X G c) (mem_all (dok325 X G c) (mem_all (dok326 X G c) mem_none)))))))))))))))))))))) (f, F) (look_mem hF)
theorem glob (X : K.In h) (G : h.Ns mainGlobals mg) (c : He.SaysD fas dfs K) (cg : gfs gfL K = true) : Glob K mg Pr (gnOf gt) blN true :=
  glob_of X G c cg (by decide +kernel) (mem_all (by simp [gfL, gfL0, gfL1, gfL2]) (mem_all (by simp [gfL, gfL0, gfL1, gfL2]) (mem_all (by simp [gfL, gfL0, gfL1, gfL2]) mem_none))) (mem_all (by simp [fas, fas0, fas1, fas2]) (mem_all (by simp [fas, fas0, fas1, fas2]) (mem_all (by simp [fas, fas0, fas1, fas2]) (mem_all (by simp [fas, fas0, fas1, fas2]) (mem_all (by simp [fas, fas0, fas1, fas2]) (mem_all (by simp [fas, fas0, fas1, fas2]) (mem_all (by simp [fas, fas0, fas1, fas2]) (mem_all (by simp [fas, fas0, fas1, fas2]) (mem_all (by simp [fas, fas0, fas1, fas2]) (mem_all (by simp [fas, fas0, fas1, fas2]) (mem_all (by simp [fas, fas0, fas1, fas2]) (mem_all (by simp [fas, fas0, fas1, fas2]) (mem_all (by simp [fas, fas0, fas1, fas2]) (mem_all (by simp [fas, fas0, fas1, fas2]) (mem_all (by simp [fas, fas0, fas1, fas2]) (mem_all (by simp [fas, fas0, fas1, fas2]) mem_none)))))))))))))))) (fun _ => by simp [gfL, gfL0, gfL1, gfL2])
end
end LS

set_option maxHeartbeats 1000000
/-! VA: small laws of the evaluator, for reading defs. -/
namespace LS
open PySem L2
section
variable {i j : Int} {x y z : D} {l m : List D} {b c : Bool} {d : D}
theorem o_add : opF .add (.int i) (.int j) = some (.int (i + j)) := rfl
theorem o_sub : opF .sub (.int i) (.int j) = some (.int (i - j)) := rfl
theorem o_mul (h : smallMul i j = true) : opF .mul (.int i) (.int j) = some (.int (i * j)) := if_pos h
theorem o_fdiv (h : j ≠ 0) (h2 : j.natAbs.log2 < 9000) : opF .fdiv (.int i) (.int j) = some (.int (i.fdiv j)) := if_pos ⟨h, h2⟩
theorem o_mod (h : j ≠ 0) : opF .mod (.int i) (.int j) = some (.int (i.fmod j)) := if_pos h
theorem o_tup (h : l.length + m.length ≤ sizeLine) : opF .add (.tup l) (.tup m) = some (.tup (l ++ m)) := if_pos h
theorem o_lst (h : l.length + m.length ≤ sizeLine) : opF .add (.lst l) (.lst m) = some (.lst (l ++ m)) := if_pos h
theorem c_lt : cmpF .lt (.int i) (.int j) = some (.bl (decide (i < j))) := rfl
theorem c_le : cmpF .le (.int i) (.int j) = some (.bl (decide (i ≤ j))) := rfl
theorem c_gt : cmpF .gt (.int i) (.int j) = some (.bl (decide (j < i))) := rfl
theorem c_ge : cmpF .ge (.int i) (.int j) = some (.bl (decide (j ≤ i))) := rfl
theorem s_bl : sclF (.bl b) = some b := rfl
theorem t_bl : truF (.bl b) = some b := rfl
theorem at_in {α : Type} {l : List α} {i : Int} (h : 0 ≤ i) (h2 : i < l.length) : atI l i = l[i.toNat]? := by
  unfold atI ixN
  rw [if_pos h, if_pos h2]
  rfl
theorem ixl0 : ixF (.lst [x, y, z]) (.int 0) = some x := at_in (by decide) (by simp)
theorem ixl1 : ixF (.lst [x, y, z]) (.int 1) = some y := at_in (by decide) (by simp)
theorem ixl2 : ixF (.lst [x, y, z]) (.int 2) = some z := at_in (by decide) (by simp)
theorem ixt0 : ixF (.tup [x, y]) (.int 0) = some x := at_in (by decide) (by simp)
theorem ixt1 : ixF (.tup [x, y]) (.int 1) = some y := at_in (by decide) (by simp)
theorem ixn0 : ixN (0 + 1 + 1 + 1) 0 = some 0 := by simp [ixN]
theorem ixn1 : ixN (0 + 1 + 1 + 1) 1 = some 1 := by simp [ixN]
theorem ixn2 : ixN (0 + 1 + 1 + 1) 2 = some 2 := by simp [ixN]
theorem b_int : biF .int [.int i] = some (.int i) := rfl
theorem b_len (l : List D) : biF .len [.lst l] = some (.int l.length) := rfl
theorem b_lent (l : List D) : biF .len [.tup l] = some (.int l.length) := rfl
theorem b_abs : biF .abs [.int i] = some (.int i.natAbs) := by
  show some (D.int (if i < 0 then -i else i)) = _
  congr 2
  split <;> omega
theorem g_at {env : EnD} {n : Nat} : getE env n = (env[n]?).join := rfl
theorem run_at {P : Prg} {k f : Nat} {F : Fn} {ds os : List D} {fl : Fl} {e : EnD} (h : P.fn f = some F) (hl : ds.length = F.ps.length) (hb : exL (run P k) P.gl F.body (ds.map some ++ List.replicate (F.N.length - ds.length) none) = some (fl, e)) (ho : outsE F.pk e = some os) (hf : F.fresh = false ∨ ∃ l, flD fl = .lst l) : run P (k + 1) f ds = some (flD fl, os) := by
  unfold run
  rw [h]
  show (if ds.length = F.ps.length then _ else none) = _
  rw [if_pos hl, hb]
  show (outsE F.pk e).bind _ = _
  rw [ho]
  show backF F.fresh (flD fl) os = _
  unfold backF
  rcases hf with hf | ⟨l, hf⟩
  · rw [hf]; rfl
  · rw [hf]; cases F.fresh <;> rfl
end
end LS
set_option maxHeartbeats 1000000
/-! VB: the draws. -/
namespace LS
open PySem L2
theorem log_lt {n b : Nat} (hb : 0 < b) (h : n < 2 ^ b) : n.log2 < b := by
  by_cases e : n = 0
  · subst e
    show Nat.log2 0 < b
    simp [Nat.log2_zero]
    exact hb
  · exact (Nat.log2_lt e).mpr h
theorem small_of {i j : Int} (h1 : i.natAbs < 2 ^ 200) (h2 : j.natAbs < 2 ^ 200) : smallMul i j = true := by
  have a := log_lt (by decide) h1
  have b := log_lt (by decide) h2
  unfold smallMul
  exact decide_eq_true (by omega)
theorem big_of {i : Int} {b : Nat} (h : i.natAbs < 2 ^ b) (hb : b ≤ 200) : i.natAbs < 2 ^ 200 := Nat.lt_of_lt_of_le h (Nat.pow_le_pow_right (by decide) hb)
theorem mod_pos {x n : Int} (hn : 0 < n) : 0 ≤ x.fmod n ∧ x.fmod n < n := ⟨Int.fmod_nonneg_of_pos x hn, Int.fmod_lt_of_pos x hn⟩
/-- the state of the draws -/
def Vn (B : Nat) (v : D) : Prop := ∃ a m c : Int, v = .lst [.int a, .int m, .int c] ∧ 0 ≤ c ∧ c ≤ B ∧ 0 ≤ m ∧ m < 2147483549
theorem chip {P : Prg} (hP : P.fn 169 = some F169) (k : Nat) {B : Nat} {v : D} {n : Int} (hv : Vn B v) (hn : 0 < n) (hz : n < 2 ^ 62) (hB : B < 2 ^ 60) : ∃ r v', run P (k + 1) 169 [v, .int n] = some (.int r, [v']) ∧ Vn (B + 1) v' ∧ 0 ≤ r ∧ r < n := by
  obtain ⟨a, m, c, rfl, c0, c1, m0, m1⟩ := hv
  have n0 : n ≠ 0 := by omega
  have hl : n.natAbs.log2 < 9000 := Nat.lt_trans (log_lt (b := 62) (by decide) (by omega)) (by decide)
  by_cases ha : 0 < a
  · refine ⟨a.fmod n, .lst [.int (a.fdiv n), .int m, .int c], run_at (fl := .rt (.int (a.fmod n))) (e := [some (.lst [.int (a.fdiv n), .int m, .int c]), some (.int n), some (.int (a.fmod n))]) hP rfl ?_ rfl (.inl rfl), ⟨_, _, _, rfl, c0, by omega, m0, m1⟩, (mod_pos hn).1, (mod_pos hn).2⟩
    simp only [F169, exL, exS, tst, ev, evL, g_at, ixl0, ixl1, ixl2, ixn0, ixn1, ixn2, c_gt, s_bl, b_int, o_mod n0, o_fdiv n0 hl, asgT, isIntD, Option.bind_some, Option.map_some, List.map_cons, List.map_nil, List.length_cons, List.length_nil, List.replicate, List.cons_append, List.nil_append, List.getElem?_cons_zero, List.getElem?_cons_succ, Option.join_some, Bool.not_true, Bool.and_false, Bool.false_eq_true, if_false, decide_eq_true ha, if_true, List.set_cons_zero, List.set_cons_succ]
  · have h1 : smallMul 10 (c + 1) = true := small_of (by decide) (big_of (b := 62) (by omega) (by decide))
    have h2 : smallMul m (28657 + 10 * (c + 1)) = true := small_of (big_of (b := 62) (by omega) (by decide)) (big_of (b := 80) (by omega) (by decide))
    have h3 : smallMul 71993 (c + 1) = true := small_of (big_of (b := 62) (by decide) (by decide)) (big_of (b := 62) (by omega) (by decide))
    let m' : Int := (m * (28657 + 10 * (c + 1)) + 71993 * (c + 1) + 41).fmod 2147483549
    refine ⟨(m'.fdiv 83).fmod n, .lst [.int a, .int m', .int (c + 1)], run_at (fl := .rt (.int ((m'.fdiv 83).fmod n))) (e := [some (.lst [.int a, .int m', .int (c + 1)]), some (.int n), none]) hP rfl ?_ rfl (.inl rfl), ⟨_, _, _, rfl, by omega, by omega, (mod_pos (by decide)).1, (mod_pos (by decide)).2⟩, (mod_pos hn).1, (mod_pos hn).2⟩
    simp only [F169, exL, exS, tst, ev, evL, g_at, ixl0, ixl1, ixl2, ixn0, ixn1, ixn2, c_gt, s_bl, b_int, o_mod n0, o_mod (show (2147483549 : Int) ≠ 0 by decide), o_fdiv (show (83 : Int) ≠ 0 by decide) (by decide), o_add, o_mul h1, o_mul h2, o_mul h3, asgT, isIntD, Option.bind_some, Option.map_some, List.map_cons, List.map_nil, List.length_cons, List.length_nil, List.replicate, List.cons_append, List.nil_append, List.getElem?_cons_zero, List.getElem?_cons_succ, Option.join_some, Bool.not_true, Bool.and_false, Bool.false_eq_true, if_false, decide_eq_false ha, if_true, List.set_cons_zero, List.set_cons_succ]
    rfl
/-- one of a list -/
theorem choice {P : Prg} (hP : P.fn 169 = some F169) (hP2 : P.fn 170 = some F170) (k : Nat) {B : Nat} {v : D} {l : List D} (hv : Vn B v) (hl : l ≠ []) (hz : l.length < 1000000) (hB : B < 2 ^ 60) : ∃ x v', run P (k + 2) 170 [v, .lst l] = some (x, [v']) ∧ Vn (B + 1) v' ∧ x ∈ l := by
  have l0 : 0 < l.length := List.length_pos_iff.mpr hl
  obtain ⟨r, v', h1, h2, h3, h4⟩ := chip hP k hv (n := (l.length : Int)) (by omega) (by omega) hB
  obtain ⟨x, hx⟩ : ∃ x, l[r.toNat]? = some x := ⟨l[r.toNat]'(by omega), by simp [show r.toNat < l.length by omega]⟩
  have hi : ixF (.lst l) (.int r) = some x := (at_in h3 h4).trans hx
  refine ⟨x, v', run_at (fl := .rt x) (e := [some v', some (.lst l)]) hP2 rfl ?_ rfl (.inl rfl), h2, List.mem_of_getElem? hx⟩
  simp only [F170, exL, exS, tst, ev, evL, evA, fillA, outA, lentA, g_at, b_len, h1, hi, Option.bind_some, Option.map_some, List.map_cons, List.map_nil, List.length_cons, List.length_nil, List.replicate, List.cons_append, List.nil_append, List.getElem?_cons_zero, List.getElem?_cons_succ, Option.join_some, Bool.not_true, Bool.and_false, Bool.false_and, Bool.false_eq_true, if_false, if_true, List.set_cons_zero, List.set_cons_succ]
  rfl
end LS
set_option maxHeartbeats 1000000
/-! VC: the law's own fractions. -/
namespace LS
open PySem L2
theorem fmod_nat (a b : Nat) : Int.fmod (a : Int) (b : Int) = ((a % b : Nat) : Int) := by
  rw [Int.fmod_eq_emod_of_nonneg _ (Int.natCast_nonneg b)]
  rfl
section
variable {C : CallT} {G : Nat → Option D}
abbrev shC : E := .cmp .gt (.v 1) (.int 0)
abbrev shB : SL := .cons (.par [(0, false), (1, false)] (.cons (.v 1) (.cons (.op .mod (.bi .int (.cons (.v 0) .nil)) (.v 1)) .nil))) .nil
theorem shC_at (x y : Int) : tst C G shC [some (.int x), some (.int y)] = some (decide (0 < y), [some (.int x), some (.int y)]) := by
  simp only [tst, ev, g_at, c_gt, s_bl, Option.bind_some, Option.map_some, List.getElem?_cons_zero, List.getElem?_cons_succ, Option.join_some]
theorem shB_at (x y : Int) (h : y ≠ 0) : exL C G shB [some (.int x), some (.int y)] = some (.nx, [some (.int y), some (.int (x.fmod y))]) := by
  simp only [exL, exS, ev, evL, g_at, b_int, o_mod h, Option.bind_some, Option.map_some, List.getElem?_cons_zero, List.getElem?_cons_succ, Option.join_some, parF, Bool.false_and, Bool.false_eq_true, if_false, List.set_cons_zero, List.set_cons_succ]
/-- the greatest common divisor by turns -/
theorem shared_turns : ∀ (b a : Nat), whL (fun e => tst C G shC e) (fun e => exL C G shB e) [some (.int a), some (.int b)] = some (.nx, [some (.int (Nat.gcd a b : Nat)), some (.int 0)]) := by
  intro b
  induction b using Nat.strongRecOn with
  | _ b ih =>
    intro a
    rw [whL_eq]
    rw [shC_at]
    by_cases hb : b = 0
    · subst hb
      rw [Nat.gcd_zero_right]
      rfl
    · have hb0 : (0 : Int) < (b : Int) := by omega
      simp only [Option.bind_some, decide_eq_true hb0, if_true]
      rw [shB_at _ _ (by omega), fmod_nat]
      simp only [Option.bind_some]
      rw [ih (a % b) (Nat.mod_lt _ (by omega)) b]
      have e : Nat.gcd b (a % b) = Nat.gcd a b := by rw [Nat.gcd_comm b, ← Nat.gcd_rec, Nat.gcd_comm]
      rw [e]
end
theorem shared {P : Prg} (hP : P.fn 171 = some F171) (k : Nat) (x y : Int) : run P (k + 1) 171 [.int x, .int y] = some (.int (Int.gcd x y), []) := by
  refine run_at (fl := .rt (.int (Int.gcd x y))) (e := [some (.int (Int.gcd x y)), some (.int 0)]) hP rfl ?_ rfl (.inl rfl)
  have h1 : exS (run P k) P.gl (.par [(0, false), (1, false)] (.cons (.bi .abs (.cons (.v 0) .nil)) (.cons (.bi .abs (.cons (.v 1) .nil)) .nil))) [some (.int x), some (.int y)] = some (.nx, [some (.int x.natAbs), some (.int y.natAbs)]) := by
    simp only [exS, ev, evL, g_at, b_abs, Option.bind_some, Option.map_some, List.getElem?_cons_zero, List.getElem?_cons_succ, Option.join_some, parF, Bool.false_and, Bool.false_eq_true, if_false, List.set_cons_zero, List.set_cons_succ]
  have h2 : exS (run P k) P.gl (.whl shC shB) [some (.int x.natAbs), some (.int y.natAbs)] = some (.nx, [some (.int (Int.gcd x y)), some (.int 0)]) := by
    unfold exS
    exact shared_turns y.natAbs x.natAbs
  show exL _ _ F171.body [some (.int x), some (.int y)] = _
  unfold F171
  simp only [exL, h1, Option.bind_some]
  rw [show exS (run P k) P.gl (.whl (.cmp .gt (.v 1) (.int 0)) (.cons (.par [(0, false), (1, false)] (.cons (.v 1) (.cons (.op .mod (.bi .int (.cons (.v 0) .nil)) (.v 1)) .nil))) .nil)) [some (.int x.natAbs), some (.int y.natAbs)] = some (.nx, [some (.int (Int.gcd x y)), some (.int 0)]) from h2]
  simp only [exS, ev, g_at, Option.bind_some, Option.map_some, List.getElem?_cons_zero, Option.join_some]
end LS
set_option maxHeartbeats 1000000
/-! VD: fractions as rational numbers. -/
namespace LS
open PySem L2
def frD (q : Rat) : D := .tup [.int q.num, .int q.den]
theorem fr_pos {a b : Int} (hb : 0 < b) : a.fdiv (Int.gcd a b : Int) = (Rat.divInt a b).num ∧ b.fdiv (Int.gcd a b : Int) = ((Rat.divInt a b).den : Int) := by
  have hg : (Int.gcd a b : Int) ∣ a := Int.gcd_dvd_left ..
  have hg2 : (Int.gcd a b : Int) ∣ b := Int.gcd_dvd_right ..
  rw [Int.fdiv_eq_ediv_of_dvd hg, Int.fdiv_eq_ediv_of_dvd hg2, Rat.num_divInt, Rat.den_divInt, Int.sign_eq_one_of_pos hb, Int.one_mul, Int.gcd_comm b a]
  refine ⟨rfl, ?_⟩
  rw [if_neg (by omega)]
  have : (b.natAbs : Int) = b := by omega
  rw [Int.natCast_ediv, this]
theorem fr_neg {a b : Int} (hb : b < 0) : a.fdiv (-(Int.gcd a b : Int)) = (Rat.divInt a b).num ∧ b.fdiv (-(Int.gcd a b : Int)) = ((Rat.divInt a b).den : Int) := by
  have hg : -(Int.gcd a b : Int) ∣ a := Int.neg_dvd.mpr (Int.gcd_dvd_left ..)
  have hg2 : -(Int.gcd a b : Int) ∣ b := Int.neg_dvd.mpr (Int.gcd_dvd_right ..)
  rw [Int.fdiv_eq_ediv_of_dvd hg, Int.fdiv_eq_ediv_of_dvd hg2, Rat.num_divInt, Rat.den_divInt, Int.sign_eq_neg_one_of_neg hb, Int.gcd_comm b a, Int.ediv_neg, Int.ediv_neg]
  have h1 : (Int.gcd a b : Int) ∣ a := Int.gcd_dvd_left ..
  have h2 : (Int.gcd a b : Int) ∣ b := Int.gcd_dvd_right ..
  refine ⟨?_, ?_⟩
  · rw [show (-1 : Int) * a = -a by omega, Int.neg_ediv_of_dvd h1]
  · rw [if_neg (by omega), Int.natCast_ediv, show (b.natAbs : Int) = -b by omega, Int.neg_ediv_of_dvd h2]
/-- the law's own fraction of two whole numbers -/
theorem lawF {P : Prg} (h1 : P.fn 171 = some F171) (h2 : P.fn 172 = some F172) (k : Nat) {a b : Int} (hb : b ≠ 0) (hz : b.natAbs < 2 ^ 8000) : run P (k + 2) 172 [.int a, .int b] = some (frD (Rat.divInt a b), []) := by
  have g0 : Int.gcd a b ≠ 0 := fun z => hb (Int.gcd_eq_zero_iff.mp z).2
  have gl : (Int.gcd a b : Nat).log2 < 9000 := Nat.lt_trans (log_lt (by decide) (Nat.lt_of_le_of_lt (Nat.le_of_dvd (by omega) (Int.gcd_dvd_natAbs_right ..)) hz)) (by decide)
  by_cases hp : 0 < b
  · obtain ⟨e1, e2⟩ := fr_pos (a := a) hp
    refine run_at (fl := .rt (frD (Rat.divInt a b))) (e := [some (.int a), some (.int b), some (.int (Int.gcd a b : Int))]) h2 rfl ?_ rfl (.inl rfl)
    have n0 : (Int.gcd a b : Int) ≠ 0 := by omega
    simp only [F172, exL, exS, tst, ev, evL, evA, fillA, outA, lentA, g_at, c_gt, s_bl, shared h1, asgT, decide_eq_true hp, if_true, o_fdiv n0 gl, e1, e2, Option.bind_some, Option.map_some, List.map_cons, List.map_nil, List.length_cons, List.length_nil, List.replicate, List.cons_append, List.nil_append, List.getElem?_cons_zero, List.getElem?_cons_succ, Option.join_some, Bool.false_and, Bool.false_eq_true, if_false, List.set_cons_zero, List.set_cons_succ]
    rfl
  · have hn : b < 0 := by omega
    obtain ⟨e1, e2⟩ := fr_neg (a := a) hn
    refine run_at (fl := .rt (frD (Rat.divInt a b))) (e := [some (.int a), some (.int b), some (.int (0 - (Int.gcd a b : Int)))]) h2 rfl ?_ rfl (.inl rfl)
    have n0 : (0 - (Int.gcd a b : Int)) ≠ 0 := by omega
    have gl2 : (0 - (Int.gcd a b : Int)).natAbs.log2 < 9000 := by rw [show (0 - (Int.gcd a b : Int)).natAbs = Int.gcd a b by omega]; exact gl
    rw [← Int.zero_sub] at e1 e2
    simp only [F172, exL, exS, tst, ev, evL, evA, fillA, outA, lentA, g_at, c_gt, s_bl, shared h1, asgT, decide_eq_false hp, o_sub, o_fdiv n0 gl2, e1, e2, Option.bind_some, Option.map_some, List.map_cons, List.map_nil, List.length_cons, List.length_nil, List.replicate, List.cons_append, List.nil_append, List.getElem?_cons_zero, List.getElem?_cons_succ, Option.join_some, Bool.false_and, Bool.false_eq_true, if_false, List.set_cons_zero, List.set_cons_succ]
    rfl
end LS
set_option maxHeartbeats 1000000
/-! VE: the law's product, quotient, drawn fractions. -/
namespace LS
open PySem L2
/-- small enough: numerator and denominator below 2^b -/
def Sz (b : Nat) (q : Rat) : Prop := q.num.natAbs < 2 ^ b ∧ q.den < 2 ^ b
theorem small4 {i j : Int} (h1 : i.natAbs < 2 ^ 3900) (h2 : j.natAbs < 2 ^ 3900) : smallMul i j = true := by
  have a := log_lt (by decide) h1
  have b := log_lt (by decide) h2
  unfold smallMul
  exact decide_eq_true (by omega)
theorem up4 {i n : Nat} (h : i < 2 ^ n) (hn : n ≤ 3900) : i < 2 ^ 3900 := Nat.lt_of_lt_of_le h (Nat.pow_le_pow_right (by decide) hn)
theorem sm_num {a b : Rat} {n m : Nat} (ha : Sz n a) (hb : Sz m b) (hn : n ≤ 3900) (hm : m ≤ 3900) : smallMul a.num b.num = true ∧ smallMul a.den b.den = true ∧ smallMul a.num b.den = true ∧ smallMul a.den b.num = true := by
  have a1 := up4 ha.1 hn
  have b1 := up4 hb.1 hm
  have a2 : ((a.den : Int)).natAbs < 2 ^ 3900 := by rw [Int.natAbs_natCast]; exact up4 ha.2 hn
  have b2 : ((b.den : Int)).natAbs < 2 ^ 3900 := by rw [Int.natAbs_natCast]; exact up4 hb.2 hm
  exact ⟨small4 a1 b1, small4 a2 b2, small4 a1 b2, small4 a2 b1⟩
theorem as_div (a : Rat) : a = (a.num : Rat) / ((a.den : Int) : Rat) := by rw [← Rat.divInt_eq_div, Rat.num_divInt_den]
theorem den_ne (a : Rat) : ((a.den : Int) : Rat) ≠ 0 := by
  have := a.den_pos
  exact fun z => by
    have z := Rat.intCast_eq_zero_iff.mp z
    omega
theorem div_mul (a b : Rat) : Rat.divInt (a.num * b.num) (a.den * b.den) = a * b := by
  rw [Rat.divInt_eq_div, Rat.intCast_mul, Rat.intCast_mul]
  have ha := as_div a
  have hb := as_div b
  have da := den_ne a
  have db := den_ne b
  generalize (a.num : Rat) = x at *
  generalize (b.num : Rat) = y at *
  generalize ((a.den : Int) : Rat) = u at *
  generalize ((b.den : Int) : Rat) = v at *
  grind
theorem div_div (a b : Rat) (b0 : b ≠ 0) : Rat.divInt (a.num * b.den) (a.den * b.num) = a / b := by
  rw [Rat.divInt_eq_div, Rat.intCast_mul, Rat.intCast_mul]
  have ha := as_div a
  have hb := as_div b
  have da := den_ne a
  have db := den_ne b
  have nb : (b.num : Rat) ≠ 0 := fun z => b0 (Rat.num_eq_zero.mp (Rat.intCast_eq_zero_iff.mp z))
  generalize (a.num : Rat) = x at *
  generalize (b.num : Rat) = y at *
  generalize ((a.den : Int) : Rat) = u at *
  generalize ((b.den : Int) : Rat) = v at *
  grind
end LS
set_option maxHeartbeats 1000000
/-! VF: drawn fractions. -/
namespace LS
open PySem L2
theorem sz_div {b : Nat} {x y : Int} (y0 : y ≠ 0) (hx : x.natAbs < 2 ^ b) (hy : y.natAbs < 2 ^ b) : Sz b (Rat.divInt x y) := by
  refine ⟨?_, ?_⟩
  · rw [Rat.num_divInt]
    refine Nat.lt_of_le_of_lt ?_ hx
    refine Nat.le_trans (Int.natAbs_ediv_le_natAbs _ _) ?_
    rw [Int.natAbs_mul]
    have : y.sign.natAbs ≤ 1 := by
      rcases Int.lt_trichotomy y 0 with h | h | h
      · rw [Int.sign_eq_neg_one_of_neg h]; decide
      · exact absurd h y0
      · rw [Int.sign_eq_one_of_pos h]; decide
    calc y.sign.natAbs * x.natAbs ≤ 1 * x.natAbs := Nat.mul_le_mul_right _ this
      _ = x.natAbs := Nat.one_mul _
  · rw [Rat.den_divInt, if_neg y0]
    exact Nat.lt_of_le_of_lt (Nat.div_le_self _ _) hy
theorem sz_mul {a b : Rat} {n m : Nat} (ha : Sz n a) (hb : Sz m b) : Sz (n + m) (a * b) := by
  rw [← div_mul]
  have d1 := a.den_pos
  have d2 := b.den_pos
  refine sz_div (Int.mul_ne_zero (by omega) (by omega)) ?_ ?_
  · rw [Int.natAbs_mul, Nat.pow_add]; exact Nat.mul_lt_mul'' ha.1 hb.1
  · rw [Int.natAbs_mul, Int.natAbs_natCast, Int.natAbs_natCast, Nat.pow_add]; exact Nat.mul_lt_mul'' ha.2 hb.2
theorem sz_quo {a b : Rat} {n m : Nat} (ha : Sz n a) (hb : Sz m b) (b0 : b ≠ 0) : Sz (n + m) (a / b) := by
  rw [← div_div a b b0]
  have d1 := a.den_pos
  have d2 : b.num ≠ 0 := fun z => b0 (Rat.num_eq_zero.mp z)
  refine sz_div (Int.mul_ne_zero (by omega) d2) ?_ ?_
  · rw [Int.natAbs_mul, Int.natAbs_natCast, Nat.pow_add]; exact Nat.mul_lt_mul'' ha.1 hb.2
  · rw [Int.natAbs_mul, Int.natAbs_natCast, Nat.pow_add]; exact Nat.mul_lt_mul'' ha.2 hb.1
theorem sz_one : Sz 1 (1 : Rat) := ⟨by decide, by decide⟩
/-- the drawn lists -/
abbrev unders : List D := [.int 1, .int 1, .int 1, .int 1, .int 2, .int 2, .int 3, .int 5, .int 12]
theorem in_unders {x : D} (h : x ∈ unders) : ∃ n : Int, x = .int n ∧ 1 ≤ n ∧ n ≤ 12 := by
  simp only [unders, List.mem_cons, List.not_mem_nil, or_false] at h
  rcases h with rfl | rfl | rfl | rfl | rfl | rfl | rfl | rfl | rfl <;> exact ⟨_, rfl, by decide, by decide⟩
theorem lawAny {P : Prg} (h0 : P.fn 169 = some F169) (h00 : P.fn 170 = some F170) (h1 : P.fn 171 = some F171) (h2 : P.fn 172 = some F172) (h3 : P.fn 173 = some F173) (k : Nat) {B : Nat} {v : D} (hv : Vn B v) (hB : B < 2 ^ 50) : ∃ q v', run P (k + 3) 173 [v] = some (frD q, [v']) ∧ Vn (B + 3) v' ∧ Sz 7 q := by
  obtain ⟨x, v1, a1, a2, a3⟩ := choice h0 h00 k (l := [.int 3, .int 3, .int 3, .int 6, .int 6, .int 40]) hv (by simp) (by decide) (by omega)
  have hx : ∃ n : Int, x = .int n ∧ 3 ≤ n ∧ n ≤ 40 := by
    simp only [List.mem_cons, List.not_mem_nil, or_false] at a3
    rcases a3 with rfl | rfl | rfl | rfl | rfl | rfl <;> exact ⟨_, rfl, by decide, by decide⟩
  obtain ⟨n, rfl, n1, n2⟩ := hx
  obtain ⟨r, v2, b1, b2, b3, b4⟩ := chip h0 (k + 1) (n := 2 * n + 1) a2 (by omega) (by omega) (by omega)
  obtain ⟨y, v3, c1, c2, c3⟩ := choice h0 h00 k (l := unders) b2 (by simp) (by decide) (by omega)
  obtain ⟨u, rfl, u1, u2⟩ := in_unders c3
  have u0 : u ≠ 0 := by omega
  have e := lawF h1 h2 k (a := r - n) u0 (Nat.lt_of_lt_of_le (show u.natAbs < 2 ^ 4 by omega) (Nat.pow_le_pow_right (by decide) (by decide)))
  have sm : smallMul 2 n = true := small_of (by decide) (big_of (b := 8) (by omega) (by decide))
  refine ⟨Rat.divInt (r - n) u, v3, run_at (fl := .rt (frD (Rat.divInt (r - n) u))) (e := [some v3, some (.int n)]) h3 rfl ?_ rfl (.inl rfl), c2, sz_div u0 (by omega) (by omega)⟩
  show exL (run P (k + 2)) P.gl F173.body [some v, none] = _
  unfold unders at c1
  simp only [F173, exL, exS, ev, evL, evA, fillA, outA, lentA, g_at, asgT, a1, b1, c1, e, o_mul sm, o_add, o_sub, Option.bind_some, Option.map_some, List.getElem?_cons_zero, List.getElem?_cons_succ, Option.join_some, Bool.false_and, Bool.false_eq_true, if_false, List.set_cons_zero, List.set_cons_succ]
end LS
set_option maxHeartbeats 1000000
/-! VG: drawn fractions but nought; rows. -/
namespace LS
open PySem L2
theorem eqX_of {a b : D} {c : Bool} (h : eqD a b = some c) : eqX a b = some c := by
  unfold eqX
  rw [h]
theorem eqI {i j : Int} : eqD (.int i) (.int j) = some (decide (i = j)) := by
  have h : PyData.eqv (D.py (.int i)) (D.py (.int j)) = decide (i = j) := by
    show PyData.eqv (.int i) (.int j) = _
    simp only [PyData.eqv]
    cases h : i == j
    · exact (decide_eq_false (beq_eq_false_iff_ne.mp h)).symm
    · exact (decide_eq_true (eq_of_beq h)).symm
  unfold eqD
  rw [h]
  rfl
theorem c_eqi {i j : Int} : cmpF .eq (.int i) (.int j) = some (.bl (decide (i = j))) := by
  show (eqX (.int i) (.int j)).map D.bl = _
  rw [eqX_of eqI]
  rfl
theorem lawSome {P : Prg} (h0 : P.fn 169 = some F169) (h00 : P.fn 170 = some F170) (h1 : P.fn 171 = some F171) (h2 : P.fn 172 = some F172) (h3 : P.fn 206 = some F206) (k : Nat) {B : Nat} {v : D} (hv : Vn B v) (hB : B < 2 ^ 50) : ∃ q v', run P (k + 3) 206 [v] = some (frD q, [v']) ∧ Vn (B + 4) v' ∧ Sz 7 q ∧ q ≠ 0 := by
  obtain ⟨x, v1, a1, a2, a3⟩ := choice h0 h00 k (l := [.int 2, .int 2, .int 4, .int 4, .int 30]) hv (by simp) (by decide) (by omega)
  have hx : ∃ n : Int, x = .int n ∧ 2 ≤ n ∧ n ≤ 30 := by
    simp only [List.mem_cons, List.not_mem_nil, or_false] at a3
    rcases a3 with rfl | rfl | rfl | rfl | rfl <;> exact ⟨_, rfl, by decide, by decide⟩
  obtain ⟨n, rfl, n1, n2⟩ := hx
  obtain ⟨r, v2, b1, b2, b3, b4⟩ := chip h0 (k + 1) (n := n) a2 (by omega) (by omega) (by omega)
  obtain ⟨s, v3, d1, d2, d3, d4⟩ := chip h0 (k + 1) (n := 2) b2 (by omega) (by omega) (by omega)
  obtain ⟨y, v4, c1, c2, c3⟩ := choice h0 h00 k (l := unders) d2 (by simp) (by decide) (by omega)
  obtain ⟨u, rfl, u1, u2⟩ := in_unders c3
  have u0 : u ≠ 0 := by omega
  obtain ⟨w, hw, w0, wz⟩ : ∃ w : Int, w = (if s = 0 then 1 + r else 0 - (1 + r)) ∧ w ≠ 0 ∧ w.natAbs < 2 ^ 7 := by
    by_cases hs : s = 0
    · exact ⟨1 + r, by rw [if_pos hs], by omega, by omega⟩
    · exact ⟨0 - (1 + r), by rw [if_neg hs], by omega, by omega⟩
  have e := lawF h1 h2 k (a := w) u0 (Nat.lt_of_lt_of_le (show u.natAbs < 2 ^ 4 by omega) (Nat.pow_le_pow_right (by decide) (by decide)))
  refine ⟨Rat.divInt w u, v4, run_at (fl := .rt (frD (Rat.divInt w u))) (e := [some v4, some (.int (1 + r))]) h3 rfl ?_ rfl (.inl rfl), c2, sz_div u0 wz (by omega), fun z => ?_⟩
  · show exL (run P (k + 2)) P.gl F206.body [some v, none] = _
    unfold unders at c1
    by_cases hs : s = 0
    · rw [if_pos hs] at hw
      subst hw
      simp only [F206, exL, exS, ev, tst, evL, evA, fillA, outA, lentA, g_at, asgT, a1, b1, d1, c1, e, c_eqi, s_bl, decide_eq_true hs, o_add, o_sub, Option.bind_some, Option.map_some, List.getElem?_cons_zero, List.getElem?_cons_succ, Option.join_some, Bool.false_and, Bool.false_eq_true, if_false, if_true, List.set_cons_zero, List.set_cons_succ]
    · rw [if_neg hs] at hw
      subst hw
      simp only [F206, exL, exS, ev, tst, evL, evA, fillA, outA, lentA, g_at, asgT, a1, b1, d1, c1, e, c_eqi, s_bl, decide_eq_false hs, o_add, o_sub, Option.bind_some, Option.map_some, List.getElem?_cons_zero, List.getElem?_cons_succ, Option.join_some, Bool.false_and, Bool.false_eq_true, if_false, if_true, List.set_cons_zero, List.set_cons_succ]
  · rw [Rat.divInt_eq_div] at z
    have hu : (u : Rat) ≠ 0 := fun q => u0 (Rat.intCast_eq_zero_iff.mp q)
    have hw0 : (w : Rat) ≠ 0 := fun q => w0 (Rat.intCast_eq_zero_iff.mp q)
    grind
end LS
set_option maxHeartbeats 1000000
/-! VI: what repr and == need. -/
namespace LS
open PySem L2
mutual
def D.fine : D → Bool
  | .non => true
  | .bl _ => true
  | .int i => decide (i.natAbs.log2 < 1920)
  | .tup l => D.fineL l
  | .lst l => D.fineL l
  | _ => false
def D.fineL : List D → Bool
  | [] => true
  | d :: r => D.fine d && D.fineL r
end
mutual
def D.dep : D → Nat
  | .tup l => D.depL l + 1
  | .lst l => D.depL l + 1
  | _ => 0
def D.depL : List D → Nat
  | [] => 0
  | d :: r => max (D.dep d) (D.depL r)
end
mutual
def D.blk : D → Nat
  | .tup l => D.blkL l
  | .lst l => D.blkL l
  | _ => 0
def D.blkL : List D → Nat
  | [] => 0
  | d :: r => D.blk d + 1 + D.blkL r
end
structure Fine (d : D) : Prop where
  pu : d.pure = true
  cl : d.py.canLay0 = true
  sh : d.py.showable = true
  nd : d.py.hasDict = false
  lf : d.py.leavesShort 1921 = true
  dp : d.py.depth = d.dep
  bk : d.py.bulk = d.blk
  asc : ∀ k ∈ d.py.shown.cps.toList, k < 128
structure FineL (l : List D) : Prop where
  pu : D.pureL l = true
  cl : PyData.canLayAll0 (D.pyL l) = true
  sh : PyData.showableAll (D.pyL l) = true
  nd : PyData.hasDictAll (D.pyL l) = false
  lf : PyData.leavesShortAll 1921 (D.pyL l) = true
  dp : PyData.depthAll (D.pyL l) = D.depL l
  bk : PyData.bulkAll (D.pyL l) = D.blkL l
  asc : ∀ t ∈ PyData.shownAll (D.pyL l), ∀ k ∈ t.cps.toList, k < 128
theorem asc_int (i : Int) : ∀ k ∈ ((toString i : String) : Str).cps.toList, k < 128 := by
  intro k hk
  rw [PyProof.Rows.signs_ofString] at hk
  obtain ⟨ch, hc, e⟩ := List.mem_map.mp hk
  rcases PyProof.Rows.int_sign i ch hc with hd | hd
  · have := PyProof.Rows.digit_range hd
    omega
  · rw [hd] at e
    have e' : k = 45 := by rw [← e]; decide
    omega
theorem asc_list {ts : List Str} (h : ∀ t ∈ ts, ∀ k ∈ t.cps.toList, k < 128) : ∀ k ∈ ((("[" : String) : Str) ++ Str.join ", " ts ++ "]").cps.toList, k < 128 := by
  intro k hk
  rw [PyProof.Rows.mem_cps_append, PyProof.Rows.mem_cps_append, PyProof.Rows.signs_lbrack, PyProof.Rows.signs_rbrack, PyProof.Rows.mem_join, PyProof.Rows.signs_sep] at hk
  rcases hk with (hm | (⟨t, ht, hc⟩ | ⟨_, hs⟩)) | hm
  · simp at hm; omega
  · exact h t ht k hc
  · simp at hs; omega
  · simp at hm; omega
theorem asc_tup {ts : List Str} (h : ∀ t ∈ ts, ∀ k ∈ t.cps.toList, k < 128) : ∀ k ∈ (tupleText ts).cps.toList, k < 128 := by
  intro k hk
  unfold tupleText at hk
  rw [PyProof.Rows.mem_cps_append, PyProof.Rows.mem_cps_append, PyProof.Rows.signs_lparen, PyProof.Rows.mem_join, PyProof.Rows.signs_sep] at hk
  rcases hk with (hm | (⟨t, ht, hc⟩ | ⟨_, hs⟩)) | hm
  · simp at hm; omega
  · exact h t ht k hc
  · simp at hs; omega
  · split at hm
    · have e : (((",)" : String) : Str)).cps.toList = [44, 41] := by decide
      rw [e] at hm; simp at hm; omega
    · have e : (((")" : String) : Str)).cps.toList = [41] := by decide
      rw [e] at hm; simp at hm; omega
mutual
theorem fine_all : ∀ d : D, d.fine = true → Fine d
  | .non, _ => ⟨by simp [D.pure], by simp [D.py, PyData.canLay0], by simp [D.py, PyData.showable], by simp [D.py, PyData.hasDict], by simp [D.py, PyData.leavesShort], by simp [D.py, PyData.depth, D.dep], by simp [D.py, PyData.bulk, D.blk], by
      have e : (("None" : String) : Str).cps.toList = [78, 111, 110, 101] := by decide
      show ∀ k ∈ (PyData.none).shown.cps.toList, k < 128
      rw [PyData.shown_none, e]; simp⟩
  | .bl b, _ => ⟨by simp [D.pure], by simp [D.py, PyData.canLay0], by simp [D.py, PyData.showable], by simp [D.py, PyData.hasDict], by simp [D.py, PyData.leavesShort], by simp [D.py, PyData.depth, D.dep], by simp [D.py, PyData.bulk, D.blk], by
      show ∀ k ∈ (PyData.bool b).shown.cps.toList, k < 128
      rw [PyData.shown_bool]
      cases b
      · have e : (Str.ofString "False").cps.toList = [70, 97, 108, 115, 101] := by decide
        show ∀ k ∈ (Str.ofString "False").cps.toList, k < 128
        rw [e]; simp
      · have e : (Str.ofString "True").cps.toList = [84, 114, 117, 101] := by decide
        show ∀ k ∈ (Str.ofString "True").cps.toList, k < 128
        rw [e]; simp⟩
  | .int i, h => by
    have hl : i.natAbs.log2 < 1920 := by simpa [D.fine] using h
    refine ⟨by simp [D.pure], by simp [D.py, PyData.canLay0], by simp [D.py, PyData.showable, hl], by simp [D.py, PyData.hasDict], ?_, by simp [D.py, PyData.depth, D.dep], by simp [D.py, PyData.bulk, D.blk], ?_⟩
    · simp only [D.py, PyData.leavesShort, PyData.shown]
      exact decide_eq_true (PyProof.Rows.int_text_len_1921 hl)
    · show ∀ k ∈ (PyData.int i).shown.cps.toList, k < 128
      rw [PyData.shown_int]
      exact asc_int i
  | .tup l, h => by
    have c := fine_alls l (by simpa [D.fine] using h)
    refine ⟨by simp [D.pure, c.pu], by simp [D.py, PyData.canLay0, c.cl], by simp [D.py, PyData.showable, c.sh], by simp [D.py, PyData.hasDict, c.nd], by simp [D.py, PyData.leavesShort, c.lf], by simp [D.py, PyData.depth, D.dep, c.dp], by simp [D.py, PyData.bulk, D.blk, c.bk], ?_⟩
    simp only [D.py, PyData.shown]
    exact asc_tup c.asc
  | .lst l, h => by
    have c := fine_alls l (by simpa [D.fine] using h)
    refine ⟨by simp [D.pure, c.pu], by simp [D.py, PyData.canLay0, c.cl], by simp [D.py, PyData.showable, c.sh], by simp [D.py, PyData.hasDict, c.nd], by simp [D.py, PyData.leavesShort, c.lf], by simp [D.py, PyData.depth, D.dep, c.dp], by simp [D.py, PyData.bulk, D.blk, c.bk], ?_⟩
    simp only [D.py]
    rw [PyData.shown_list]
    exact asc_list c.asc
  | .str _, h => by simp [D.fine] at h
  | .dic _ _, h => by simp [D.fine] at h
  | .ins _ _, h => by simp [D.fine] at h
  | .scr _, h => by simp [D.fine] at h
theorem fine_alls : ∀ l : List D, D.fineL l = true → FineL l
  | [], _ => ⟨by simp [D.pureL], by simp [D.pyL, PyData.canLayAll0], by simp [D.pyL, PyData.showableAll], by simp [D.pyL, PyData.hasDictAll], by simp [D.pyL, PyData.leavesShortAll], by simp [D.pyL, PyData.depthAll, D.depL], by simp [D.pyL, PyData.bulkAll, D.blkL], by simp [D.pyL, PyData.shownAll]⟩
  | d :: r, h => by
    have h' : d.fine = true ∧ D.fineL r = true := by simpa [D.fineL] using h
    have a := fine_all d h'.1
    have c := fine_alls r h'.2
    refine ⟨by simp [D.pureL, a.pu, c.pu], by simp [D.pyL, PyData.canLayAll0, a.cl, c.cl], by simp [D.pyL, PyData.showableAll, a.sh, c.sh], by simp [D.pyL, PyData.hasDictAll, a.nd, c.nd], by simp [D.pyL, PyData.leavesShortAll, a.lf, c.lf], by simp [D.pyL, PyData.depthAll, D.depL, a.dp, c.dp], by simp [D.pyL, PyData.bulkAll, D.blkL, a.bk, c.bk], ?_⟩
    simp only [D.pyL, PyData.shownAll, List.mem_cons]
    rintro t (rfl | ht)
    · exact a.asc
    · exact c.asc t ht
end
/-- may be shown -/
structure Okr (d : D) : Prop where
  fi : d.fine = true
  de : d.dep ≤ 60
  bl : d.blk ≤ 8000
def txt (d : D) : D := .str d.py.shown
theorem b_rep {d : D} (h : Okr d) : biF .repr [d] = some (txt d) := by
  have c := fine_all d h.fi
  have hs : d.py.shown.length ≤ sizeLine := by
    have e := PyData.shown_le_bulk 1921 (by decide) d.py c.lf
    have hb := h.bl
    rw [c.bk] at e
    have z : sizeLine = 16777216 := by decide
    omega
  show reprD d = _
  unfold reprD txt
  rw [c.pu, c.nd, c.sh, decide_eq_true hs, decide_eq_true (show d.py.depth ≤ 60 by rw [c.dp]; exact h.de)]
  rfl
theorem shp_txt {d : D} (h : Okr d) : (txt d).shp = true := by
  have c := fine_all d h.fi
  have hs : PyData.strOk d.py.shown = true := by
    unfold PyData.strOk
    rw [Array.all_eq_true']
    intro x hx
    have := c.asc x (Array.mem_toList_iff.mpr hx)
    exact decide_eq_true (by omega)
  unfold D.shp txt SeqAt.shaped
  simp [D.pure, D.py, PyData.canLay0, PyData.depth, hs]
theorem c_txt {d : D} (h : Okr d) : cmpF .ne (txt d) (txt d) = some (.bl false) := by
  show (eqD _ _).map _ = _
  unfold eqD
  rw [shp_txt h]
  simp [txt, D.py, PyData.eqv]
theorem c_txtE {d : D} (h : Okr d) : cmpF .eq (txt d) (txt d) = some (.bl true) := by
  have e : eqD (txt d) (txt d) = some true := by
    unfold eqD
    rw [shp_txt h]
    simp [txt, D.py, PyData.eqv]
  show (eqX (txt d) (txt d)).map D.bl = _
  rw [eqX_of e]
  rfl
/-! fractions -/
theorem rat_eq {q p : Rat} : q = p ↔ q.num = p.num ∧ (q.den : Int) = p.den := by
  constructor
  · rintro rfl; exact ⟨rfl, rfl⟩
  · rintro ⟨a, b⟩
    exact Rat.ext a (by omega)
theorem eq_fr (q p : Rat) : eqD (frD q) (frD p) = some (decide (q = p)) := by
  have e : eqD (frD q) (frD p) = some (q.num == p.num && ((q.den : Int) == p.den && true)) := by
    unfold eqD frD
    simp [D.shp, D.pure, D.pureL, D.py, D.pyL, SeqAt.shaped, PyData.canLay0, PyData.canLayAll0, PyData.depth, PyData.depthAll, PyData.eqv, PyData.eqvAll]
  rw [e]
  congr 1
  rw [Bool.and_true, Bool.eq_iff_iff, Bool.and_eq_true, beq_iff_eq, beq_iff_eq, decide_eq_true_eq]
  exact rat_eq.symm
theorem c_eqfr {q p : Rat} : cmpF .eq (frD q) (frD p) = some (.bl (decide (q = p))) := by
  show (eqX (frD q) (frD p)).map D.bl = _
  rw [eqX_of (eq_fr q p)]; rfl
theorem c_nefr {q p : Rat} : cmpF .ne (frD q) (frD p) = some (.bl (!decide (q = p))) := by
  show (eqD (frD q) (frD p)).map (fun c => D.bl (!c)) = _
  rw [eq_fr]; rfl
theorem shp_frs (l : List Rat) : D.pureL (l.map frD) = true ∧ PyData.canLayAll0 (D.pyL (l.map frD)) = true ∧ PyData.depthAll (D.pyL (l.map frD)) ≤ 1 := by
  induction l with
  | nil => simp [D.pureL, D.pyL, PyData.canLayAll0, PyData.depthAll]
  | cons q l ih =>
    obtain ⟨a, b, c⟩ := ih
    refine ⟨?_, ?_, ?_⟩
    · simp [D.pureL, a, frD, D.pure]
    · simp [D.pyL, D.py, frD, PyData.canLayAll0, PyData.canLay0, b]
    · simp [D.pyL, D.py, frD, PyData.depthAll, PyData.depth]
      omega
theorem shp_lfr (l : List Rat) : (D.lst (l.map frD)).shp = true := by
  obtain ⟨a, b, c⟩ := shp_frs l
  unfold D.shp SeqAt.shaped
  simp only [D.pure, D.py, PyData.canLay0, PyData.depth, a, b, Bool.true_and, decide_eq_true_eq]
  omega
theorem c_nel {l : List Rat} : cmpF .ne (.lst (l.map frD)) (.lst []) = some (.bl (!decide (l = []))) := by
  show (eqD _ _).map _ = _
  unfold eqD
  rw [shp_lfr, show (D.lst []).shp = true from shp_lfr []]
  cases l with
  | nil => simp [D.py, D.pyL, PyData.eqv, PyData.eqvAll]
  | cons q l => simp [D.py, D.pyL, PyData.eqv, PyData.eqvAll]
theorem fine_fr {b : Nat} {q : Rat} (h : Sz b q) (hb : b ≤ 1900) : (frD q).fine = true := by
  have h1 : q.num.natAbs.log2 < 1920 := log_lt (by decide) (Nat.lt_of_lt_of_le h.1 (Nat.pow_le_pow_right (by decide) (by omega)))
  have h2 : ((q.den : Int)).natAbs.log2 < 1920 := by
    rw [Int.natAbs_natCast]
    exact log_lt (by decide) (Nat.lt_of_lt_of_le h.2 (Nat.pow_le_pow_right (by decide) (by omega)))
  simp [frD, D.fine, D.fineL, h1]
  simpa using h2
theorem fine_frs {b : Nat} (hb : b ≤ 1900) : ∀ {l : List Rat}, (∀ q ∈ l, Sz b q) → D.fineL (l.map frD) = true
  | [], _ => by simp [D.fineL]
  | q :: l, h => by
    simp only [List.map_cons, D.fineL, fine_fr (h q (List.mem_cons_self ..)) hb, Bool.true_and]
    exact fine_frs hb fun p hp => h p (List.mem_cons_of_mem _ hp)
theorem dep_frs : ∀ l : List Rat, D.depL (l.map frD) ≤ 1
  | [] => by simp [D.depL]
  | q :: l => by
    have := dep_frs l
    simp only [List.map_cons, D.depL, frD, D.dep]
    omega
theorem blk_frs : ∀ l : List Rat, D.blkL (l.map frD) = 3 * l.length
  | [] => by simp [D.blkL]
  | q :: l => by
    have := blk_frs l
    simp only [List.map_cons, D.blkL, frD, D.blk, List.length_cons] at *
    omega
/-- a rule's data -/
def ruD (as bs : List Rat) : D := .tup [.tup (as.map frD), .tup (bs.map frD)]
theorem ix_r0 {as bs : List Rat} : ixF (ruD as bs) (.int 0) = some (.tup (as.map frD)) := ixt0
theorem ix_r1 {as bs : List Rat} : ixF (ruD as bs) (.int 1) = some (.tup (bs.map frD)) := ixt1
theorem c_eqii {i j : Int} (h : i = j) : cmpF .eq (.int i) (.int j) = some (.bl true) := by rw [c_eqi, decide_eq_true h]
theorem c_nei {i j : Int} : cmpF .ne (.int i) (.int j) = some (.bl (!decide (i = j))) := by
  show (eqD (.int i) (.int j)).map (fun c => D.bl (!c)) = _
  rw [eqI]
  rfl
end LS
set_option maxHeartbeats 1000000
/-! VJ: comprehensions; noughts at the end left out. -/
namespace LS
open PySem L2
theorem lc_run {elt : EnD → Option (D × EnD)} {i : Nat} {g : D → D} {env : EnD} : ∀ {ds : List D} {x : Option D}, (∀ d ∈ ds, elt (env.set i (some d)) = some (g d, env.set i (some d))) → ∃ y, lcL elt (.n i) [i] ds (env.set i x) = some (ds.map g, env.set i y)
  | [], x, _ => ⟨x, by unfold lcL; rfl⟩
  | d :: ds, x, h => by
    obtain ⟨y, hy⟩ := lc_run (ds := ds) (x := some d) fun e he => h e (List.mem_cons_of_mem _ he)
    refine ⟨y, ?_⟩
    unfold lcL
    have e1 : asgT (.n i) d (wipeE (env.set i x) [i]) = some (env.set i (some d)) := by
      show some (((env.set i x).set i none).set i (some d)) = _
      rw [List.set_set, List.set_set]
    rw [e1]
    simp only [Option.bind_some]
    rw [h d (List.mem_cons_self ..)]
    simp only [Option.bind_some]
    rw [hy]
    rfl
theorem set_back {α : Type} {env : List (Option α)} {i : Nat} (hi : i < env.length) : env.set i ((env[i]?).join) = env := by
  have : (env[i]?).join = env[i] := by rw [List.getElem?_eq_getElem hi]; rfl
  rw [this, List.set_getElem_self]
theorem lc_ev {C : CallT} {G : Nat → Option D} {elt : E} {i : Nat} {it : I} {env : EnD} {ds : List D} {g : D → D} (hI : evI C G it env = some (ds, env)) (hf : ds.length ≤ 1000000) (hi : i < env.length) (he : ∀ d ∈ ds, ev C G elt (env.set i (some d)) = some (g d, env.set i (some d))) : ev C G (.lc elt (.n i) it [i]) env = some (.lst (ds.map g), env) := by
  obtain ⟨y, hy⟩ := lc_run (x := (env[i]?).join) he
  rw [set_back hi] at hy
  simp only [ev]
  rw [hI]
  simp only [Option.bind_some, fits, if_pos hf]
  rw [hy]
  simp only [Option.map_some]
  show some (D.lst (ds.map g), (env.set i y).set i ((env[i]?).join)) = _
  rw [List.set_set, set_back hi]
theorem ev_bi1 {C : CallT} {G : Nat → Option D} {b : Bi} {e : E} {env env' : EnD} {d r : D} (h : ev C G e env = some (d, env')) (hb : biF b [d] = some r) : ev C G (.bi b (.cons e .nil)) env = some (r, env') := by
  simp only [ev, evL]
  rw [h]
  simp only [Option.bind_some, Option.map_some, hb]
theorem ev_call1 {C : CallT} {G : Nat → Option D} {f : Nat} {e : E} {env env' : EnD} {d r : D} (h : ev C G e env = some (d, env')) (hC : C f [d] = some (r, [])) : ev C G (.call f (.val e .nil)) env = some (r, env') := by
  simp only [ev, evA]
  rw [h]
  simp only [Option.bind_some, Option.map_some, fillA, hC, lentA, outA, Bool.false_and, Bool.false_eq_true, if_false]
theorem and_t {C : CallT} {G : Nat → Option D} {a b : E} {env e1 e2 : EnD} {d : D} (ha : ev C G a env = some (.bl true, e1)) (hb : ev C G b e1 = some (d, e2)) : ev C G (.and a b) env = some (d, e2) := by
  simp only [ev]
  rw [ha]
  simp only [Option.bind_some, s_bl, if_true]
  exact hb
theorem ev_tup2 {C : CallT} {G : Nat → Option D} {a b : E} {env e1 e2 : EnD} {d1 d2 : D} (ha : ev C G a env = some (d1, e1)) (hb : ev C G b e1 = some (d2, e2)) : ev C G (.tup (.cons a (.cons b .nil))) env = some (.tup [d1, d2], e2) := by
  simp only [ev, evL]
  rw [ha]
  simp only [Option.bind_some, Option.map_some]
  rw [hb]
  simp only [Option.bind_some, Option.map_some]
theorem ev_lst2 {C : CallT} {G : Nat → Option D} {a b : E} {env e1 e2 : EnD} {d1 d2 : D} (ha : ev C G a env = some (d1, e1)) (hb : ev C G b e1 = some (d2, e2)) : ev C G (.lst (.cons a (.cons b .nil))) env = some (.lst [d1, d2], e2) := by
  simp only [ev, evL]
  rw [ha]
  simp only [Option.bind_some, Option.map_some]
  rw [hb]
  simp only [Option.bind_some, Option.map_some]
theorem ret_at {C : CallT} {G : Nat → Option D} {e : E} {r : SL} {env env' : EnD} {d : D} (h : ev C G e env = some (d, env')) : exL C G (.cons (.ret e) r) env = some (.rt d, env') := by
  simp only [exL, exS]
  rw [h]
  simp only [Option.bind_some, Option.map_some]
theorem retO_at {C : CallT} {G : Nat → Option D} {i : Nat} {r : SL} {env : EnD} {d : D} (h : getE env i = some d) : exL C G (.cons (.retO i) r) env = some (.rt d, env) := by
  simp only [exL, exS]
  rw [h]
  simp only [Option.bind_some, Option.map_some]
/-- a statement, then the rest -/
theorem nx_at {C : CallT} {G : Nat → Option D} {s : S} {r : SL} {env env' : EnD} {x : Option (Fl × EnD)} (h : exS C G s env = some (.nx, env')) (h2 : exL C G r env' = x) : exL C G (.cons s r) env = x := by
  simp only [exL]
  rw [h]
  simp only [Option.bind_some]
  exact h2
theorem asg_at {C : CallT} {G : Nat → Option D} {t : T} {e : E} {env env' env2 : EnD} {d : D} (h : ev C G e env = some (d, env')) (ha : asgT t d env' = some env2) : exS C G (.asg t e) env = some (.nx, env2) := by
  simp only [exS]
  rw [h]
  simp only [Option.bind_some, ha, Option.map_some]
/-- a test that is False -/
theorem ifs_no {C : CallT} {G : Nat → Option D} {c : E} {a : SL} {env env' : EnD} (h : tst C G c env = some (false, env')) : exS C G (.ifs c a .nil) env = some (.nx, env') := by
  simp only [exS]
  rw [h]
  simp only [Option.bind_some, Bool.false_eq_true, if_false, exL]
/-- two texts that are the same -/
theorem rep_ne {C : CallT} {G : Nat → Option D} {a b : E} {env e1 e2 : EnD} {d : D} (hr : Okr d) (ha : ev C G a env = some (d, e1)) (hb : ev C G b e1 = some (d, e2)) : tst C G (.cmp .ne (.bi .repr (.cons a .nil)) (.bi .repr (.cons b .nil))) env = some (false, e2) := by
  simp only [tst]
  rw [ev_bi1 ha (b_rep hr)]
  simp only [Option.bind_some]
  rw [ev_bi1 hb (b_rep hr)]
  simp only [Option.bind_some, c_txt hr, s_bl, Option.map_some]
theorem ev_cmp {C : CallT} {G : Nat → Option D} {o : Cop} {a b : E} {env : EnD} : ev C G (.cmp o a b) env = (ev C G a env).bind fun p => (ev C G b p.2).bind fun q => (cmpF o p.1 q.1).map fun d => (d, q.2) := by
  simp only [ev]
theorem rep_eq {C : CallT} {G : Nat → Option D} {a b : E} {env e1 e2 : EnD} {d : D} (hr : Okr d) (ha : ev C G a env = some (d, e1)) (hb : ev C G b e1 = some (d, e2)) : ev C G (.cmp .eq (.bi .repr (.cons a .nil)) (.bi .repr (.cons b .nil))) env = some (.bl true, e2) := by
  simp only [ev_cmp]
  rw [ev_bi1 ha (b_rep hr)]
  simp only [Option.bind_some]
  rw [ev_bi1 hb (b_rep hr)]
  simp only [Option.bind_some, c_txtE hr, Option.map_some]
theorem ix_last {α : Type} {l : List α} {x : α} : atI (l ++ [x]) (-1) = some x := by
  unfold atI ixN
  rw [if_neg (by decide), if_pos (by rw [List.length_append, List.length_singleton]; omega)]
  simp only [Option.bind_some]
  have e : ((-1 : Int) + ((l ++ [x]).length : Int)).toNat = l.length := by rw [List.length_append, List.length_singleton]; omega
  rw [e]
  simp
theorem ixl_last {l : List D} {x : D} : ixF (.lst (l ++ [x])) (.int (-1)) = some x := ix_last
theorem ixt_last {l : List D} {x : D} : ixF (.tup (l ++ [x])) (.int (-1)) = some x := ix_last
theorem cut_last {α : Type} {l : List α} {x : α} : cutD (l ++ [x]) none (some (-1)) = l := by
  unfold cutD
  rw [HT.sIx_none]
  have e : HT.sIx (l ++ [x]).length (l ++ [x]).length (some (-1)) = l.length := by
    rw [show HT.sIx (l ++ [x]).length (l ++ [x]).length (some (-1)) = ((-1 : Int) + ((l ++ [x]).length : Int)).toNat from rfl, List.length_append, List.length_singleton]
    omega
  rw [e]
  simp
theorem sl_last {l : List D} {x : D} : slF (.lst (l ++ [x])) none (some (-1)) = some (.lst l) := by
  show some (D.lst (cutD _ _ _)) = _
  rw [cut_last]
def trimQ (l : List Rat) : List Rat := (l.reverse.dropWhile fun q => decide (q = 0)).reverse
theorem trimQ_nil : trimQ [] = [] := rfl
theorem trimQ_snoc0 {l : List Rat} {q : Rat} (h : q = 0) : trimQ (l ++ [q]) = trimQ l := by simp [trimQ, h]
theorem trimQ_snoc {l : List Rat} {q : Rat} (h : q ≠ 0) : trimQ (l ++ [q]) = l ++ [q] := by simp [trimQ, h]
theorem map_snoc {l : List Rat} {q : Rat} : (l ++ [q]).map frD = l.map frD ++ [frD q] := by rw [List.map_append]; rfl
theorem b_list {l : List D} : biF .list [.lst l] = some (.lst l) := rfl
theorem b_listt {l : List D} : biF .list [.tup l] = some (.lst l) := rfl
theorem b_tuple {l : List D} : biF .tuple [.lst l] = some (.tup l) := rfl
theorem b_tuplet {l : List D} : biF .tuple [.tup l] = some (.tup l) := rfl
abbrev tC : E := (.and (.cmp .gt (.bi .len (.cons (.v 0) .nil)) (.int 0)) (.cmp .eq (.ix (.ix (.v 0) (.neg (.int 1))) (.int 0)) (.int 0)))
abbrev tB : SL := (.cons (.asg (.n 0) (.sl (.v 0) .no (.so (.neg (.int 1))))) .nil)
theorem num_nought {q : Rat} : decide (q.num = 0) = decide (q = 0) := by
  rw [Bool.eq_iff_iff, decide_eq_true_eq, decide_eq_true_eq]
  exact Rat.num_eq_zero
theorem trim_turns {C : CallT} {G : Nat → Option D} : ∀ (n : Nat) (l : List Rat), l.length = n → whL (fun e => tst C G tC e) (fun e => exL C G tB e) [some (.lst (l.map frD))] = some (.nx, [some (.lst ((trimQ l).map frD))])
  | 0, l, h => by
    obtain rfl := List.length_eq_zero_iff.mp h
    rw [whL_eq]
    simp only [tC, tst, ev, evL, g_at, b_len, c_gt, s_bl, List.map_nil, List.length_nil, Option.bind_some, Option.map_some, List.getElem?_cons_zero, Option.join_some]
    rfl
  | n + 1, l, h => by
    rcases List.eq_nil_or_concat l with rfl | ⟨m, q, rfl⟩
    · simp at h
    rw [List.concat_eq_append] at h ⊢
    have hm : m.length = n := by simpa using h
    have hc : tst C G tC [some (.lst ((m ++ [q]).map frD))] = some (decide (q = 0), [some (.lst ((m ++ [q]).map frD))]) := by
      have hp : (0 : Int) < ((m.map frD ++ [frD q]).length : Int) := by rw [List.length_append, List.length_singleton]; omega
      rw [map_snoc, ← num_nought]
      simp only [tC, tst, ev, evL, g_at, b_len, c_gt, s_bl, decide_eq_true hp, if_true, Option.bind_some, Option.map_some, List.getElem?_cons_zero, Option.join_some, ixl_last]
      unfold frD
      simp only [ixt0, c_eqi, s_bl, Option.bind_some, Option.map_some]
    rw [whL_eq, hc]
    simp only [Option.bind_some]
    by_cases hq : q = 0
    · rw [if_pos (decide_eq_true hq)]
      have hb : exL C G tB [some (.lst ((m ++ [q]).map frD))] = some (.nx, [some (.lst (m.map frD))]) := by
        rw [map_snoc]
        simp only [tB, exL, exS, ev, evO, g_at, sl_last, asgT, Option.bind_some, Option.map_some, List.getElem?_cons_zero, Option.join_some, List.set_cons_zero]
      rw [hb]
      simp only [Option.bind_some]
      rw [trim_turns n m hm, trimQ_snoc0 hq]
    · rw [decide_eq_false hq, trimQ_snoc hq]
      rfl
end LS
set_option maxHeartbeats 1000000
/-! VK: the package's fractions. -/
namespace LS
open PySem L2
structure Kr (P : Prg) : Prop where
  f1 : P.fn 1 = some F1
  f2 : P.fn 2 = some F2
  f4 : P.fn 4 = some F4
  f5 : P.fn 5 = some F5
  f9 : P.fn 9 = some F9
theorem b_gcd0 {a : Int} : biF .gcd [.int 0, .int a] = some (.int (a.natAbs : Int)) := by
  show some (D.int ((Nat.gcd (0 : Int).natAbs a.natAbs : Nat) : Int)) = _
  rw [show (0 : Int).natAbs = 0 from rfl, Nat.gcd_zero_left]
theorem b_gcd1 {a b : Int} : biF .gcd [.int (a.natAbs : Int), .int b] = some (.int (Int.gcd a b : Int)) := by
  show some (D.int ((Nat.gcd ((a.natAbs : Int)).natAbs b.natAbs : Nat) : Int)) = _
  rw [Int.natAbs_natCast]; rfl
theorem divisor {P : Prg} (K : Kr P) (k : Nat) {a b : Int} : run P (k + 1) 4 [.tup [.int a, .int b]] = some (.int (Int.gcd a b : Int), []) := by
  refine run_at (fl := .rt (.int (Int.gcd a b : Int))) (e := [some (.tup [.int a, .int b]), some (.int (Int.gcd a b : Int)), some (.int b)]) K.f4 rfl ?_ rfl (.inl rfl)
  show exL (run P k) P.gl F4.body [some (.tup [.int a, .int b]), none, none] = _
  simp only [F4, exL, exS, ev, evL, evI, seqOf, forL, g_at, asgT, b_gcd0, b_gcd1, Option.bind_some, Option.map_some, List.getElem?_cons_zero, List.getElem?_cons_succ, Option.join_some, List.set_cons_zero, List.set_cons_succ]
theorem isi_int {i : Int} : isiF "int" (.int i) = some (.bl true) := rfl
theorem isi_bool {i : Int} : isiF "bool" (.int i) = some (.bl false) := rfl
theorem isi_tup {l : List D} : isiF "tuple" (.tup l) = some (.bl true) := rfl
theorem whole {P : Prg} (K : Kr P) (k : Nat) {a : Int} : run P (k + 1) 1 [.int a] = some (.bl true, []) := by
  refine run_at (fl := .rt (.bl true)) (e := [some (.int a)]) K.f1 rfl ?_ rfl (.inl rfl)
  show exL (run P k) P.gl F1.body [some (.int a)] = _
  simp only [F1, exL, exS, ev, g_at, isi_int, isi_bool, s_bl, t_bl, Option.bind_some, Option.map_some, List.getElem?_cons_zero, Option.join_some, if_true, Bool.not_false]
theorem b_all {α : Type} (l : List α) : biF .all [.lst (l.map fun _ => D.bl true)] = some (.bl true) := by
  have e : blsD (l.map fun _ => D.bl true) = some (l.map fun _ => true) := by
    induction l with
    | nil => rfl
    | cons x l ih => simp only [List.map_cons, blsD, ih, Option.map_some]
  show (blsD _).map _ = _
  rw [e]
  simp
theorem wholes2 {P : Prg} (K : Kr P) (k : Nat) {a b : Int} : run P (k + 2) 2 [.tup [.int a, .int b], .int 2] = some (.bl true, []) := by
  refine run_at (fl := .rt (.bl true)) (e := [some (.tup [.int a, .int b]), some (.int 2), none]) K.f2 rfl ?_ rfl (.inl rfl)
  show exL (run P (k + 1)) P.gl F2.body [some (.tup [.int a, .int b]), some (.int 2), none] = _
  have hl := lc_ev (C := run P (k + 1)) (G := P.gl) (elt := .call 1 (.val (.v 2) .nil)) (i := 2) (it := .seq (.v 0)) (env := [some (.tup [.int a, .int b]), some (.int 2), none]) (ds := [.int a, .int b]) (g := fun _ => .bl true) (by
    simp only [evI, ev, g_at, seqOf, Option.bind_some, Option.map_some, List.getElem?_cons_zero, Option.join_some]) (by simp) (by simp) (by
    intro d hd
    have : ∃ i, d = .int i := by
      simp only [List.mem_cons, List.not_mem_nil, or_false] at hd
      rcases hd with rfl | rfl <;> exact ⟨_, rfl⟩
    obtain ⟨i, rfl⟩ := this
    simp only [ev, evA, fillA, outA, lentA, g_at, whole K k, Option.bind_some, Option.map_some, List.getElem?_cons_zero, List.getElem?_cons_succ, Option.join_some, Bool.false_and, Bool.false_eq_true, if_false, List.set_cons_zero, List.set_cons_succ])
  have hb : biF .all [.lst ([D.int a, .int b].map fun _ => D.bl true)] = some (.bl true) := b_all _
  exact ret_at (and_t (e1 := [some (.tup [.int a, .int b]), some (.int 2), none]) (by simp only [ev, g_at, isi_tup, Option.bind_some, Option.map_some, List.getElem?_cons_zero, Option.join_some]) (and_t (e1 := [some (.tup [.int a, .int b]), some (.int 2), none]) (by
    simp only [ev, evL, g_at, b_lent, c_eqi, Option.bind_some, Option.map_some, List.getElem?_cons_zero, List.getElem?_cons_succ, Option.join_some]
    rfl) (ev_bi1 hl hb)))
theorem reduced {P : Prg} (K : Kr P) (k : Nat) {a b : Int} (h : Int.gcd a b = 1) : run P (k + 2) 5 [.tup [.int a, .int b]] = some (.bl true, []) := by
  refine run_at (fl := .rt (.bl true)) (e := [some (.tup [.int a, .int b])]) K.f5 rfl ?_ rfl (.inl rfl)
  show exL (run P (k + 1)) P.gl F5.body [some (.tup [.int a, .int b])] = _
  simp only [F5, exL, exS, ev, evA, fillA, outA, lentA, g_at, divisor K k, c_eqi, h, Option.bind_some, Option.map_some, List.getElem?_cons_zero, List.getElem?_cons_succ, Option.join_some, Bool.false_and, Bool.false_eq_true, if_false]
  rfl
theorem ratio_ok {P : Prg} (K : Kr P) (k : Nat) (q : Rat) : run P (k + 3) 9 [frD q] = some (.bl true, []) := by
  refine run_at (fl := .rt (.bl true)) (e := [some (frD q)]) K.f9 rfl ?_ rfl (.inl rfl)
  show exL (run P (k + 2)) P.gl F9.body [some (frD q)] = _
  have hd : (0 : Int) < (q.den : Int) := by have := q.den_pos; omega
  have hg : Int.gcd q.num q.den = 1 := by
    have := q.reduced
    exact this
  unfold frD
  simp only [F9, exL, exS, ev, evA, fillA, outA, lentA, g_at, wholes2 K k, reduced K k hg, ixt1, c_gt, s_bl, decide_eq_true hd, Option.bind_some, Option.map_some, List.getElem?_cons_zero, List.getElem?_cons_succ, Option.join_some, Bool.false_and, Bool.false_eq_true, if_false, if_true]
end LS
set_option maxHeartbeats 1000000
/-! VT: what is a rule, asked of anything: the package's side. -/
namespace LS
open PySem L2
mutual
/-- anything but own instances and the script -/
def D.any : D → Bool
  | .tup l => decide (l.length ≤ 1000) && D.anyL l
  | .ins _ _ => false
  | .scr _ => false
  | _ => true
def D.anyL : List D → Bool
  | [] => true
  | d :: r => D.any d && D.anyL r
end
theorem anyL_mem : ∀ {l : List D}, D.anyL l = true → ∀ d ∈ l, d.any = true
  | [], _, _, h => by cases h
  | d :: r, h, e, he => by
    have h' : d.any = true ∧ D.anyL r = true := by simpa [D.anyL] using h
    rcases List.mem_cons.mp he with rfl | he
    · exact h'.1
    · exact anyL_mem h'.2 e he
theorem anyL_of : ∀ {l : List D}, (∀ d ∈ l, d.any = true) → D.anyL l = true
  | [], _ => by simp [D.anyL]
  | d :: r, h => by
    simp only [D.anyL, h d (List.mem_cons_self ..), anyL_of fun e he => h e (List.mem_cons_of_mem _ he), Bool.and_true]
theorem any_two {l : List D} (h : (D.tup l).any = true) : l.length ≤ 1000 ∧ D.anyL l = true := by simpa [D.any] using h
theorem any_tup {l : List D} (h : (D.tup l).any = true) : ∀ d ∈ l, d.any = true := anyL_mem (any_two h).2
theorem any_mk {l : List D} (h1 : l.length ≤ 1000) (h2 : ∀ d ∈ l, d.any = true) : (D.tup l).any = true := by
  simp only [D.any, decide_eq_true h1, anyL_of h2, Bool.and_true]
def intB : D → Bool
  | .int _ => true
  | _ => false
def blB : D → Bool
  | .bl _ => true
  | _ => false
def tupB : D → Bool
  | .tup _ => true
  | _ => false
def fB : D → Bool
  | .tup [.int a, .int b] => decide (0 < b) && decide (Int.gcd a b = 1)
  | _ => false
def rowB : D → Bool
  | .tup l => l.all fB
  | _ => false
def lenB : D → Nat
  | .tup l => l.length
  | _ => 0
/-- the last number of a row is not 0 -/
def topB : D → Bool
  | .tup l => match l.getLast? with
    | some (.tup (.int a :: _)) => decide (a ≠ 0)
    | _ => false
  | _ => false
def ruB : D → Bool
  | .tup [r, s] => rowB r && rowB s && (decide (lenB r = lenB s) && (decide (2 ≤ lenB r) && decide (lenB r ≤ 9) && topB r))
  | _ => false
theorem isi_i {d : D} (h : d.any = true) : isiF "int" d = some (.bl (intB d || blB d)) := by
  cases d <;> first | rfl | (simp [D.any] at h; done)
theorem isi_b {d : D} (h : d.any = true) : isiF "bool" d = some (.bl (blB d)) := by
  cases d <;> first | rfl | (simp [D.any] at h; done)
theorem isi_t {d : D} (h : d.any = true) : isiF "tuple" d = some (.bl (tupB d)) := by
  cases d <;> first | rfl | (simp [D.any] at h; done)
theorem and_f {C : CallT} {G : Nat → Option D} {a b : E} {env e1 : EnD} (ha : ev C G a env = some (.bl false, e1)) : ev C G (.and a b) env = some (.bl false, e1) := by
  simp only [ev]
  rw [ha]
  simp only [Option.bind_some, s_bl, Bool.false_eq_true, if_false]
theorem b_allB {α : Type} (f : α → Bool) (l : List α) : biF .all [.lst (l.map fun x => D.bl (f x))] = some (.bl (l.all f)) := by
  have e : blsD (l.map fun x => D.bl (f x)) = some (l.map f) := by
    induction l with
    | nil => rfl
    | cons x l ih => simp only [List.map_cons, blsD, ih, Option.map_some]
  show (blsD _).map _ = _
  rw [e]
  simp [List.all_map]
/-- is it an int, but no bool -/
theorem intAny {P : Prg} {f : Nat} {nm p : Str} (h : P.fn f = some ⟨nm, [p], [p], [.val], false, .cons (.ret (.and (.isi "int" (.v 0)) (.not (.isi "bool" (.v 0))))) .nil⟩) (k : Nat) {d : D} (hd : d.any = true) : run P (k + 1) f [d] = some (.bl (intB d), []) := by
  refine run_at (fl := .rt (.bl (intB d))) (e := [some d]) h rfl ?_ rfl (.inl rfl)
  refine ret_at ?_
  have a1 : ev (run P k) P.gl (.isi "int" (.v 0)) [some d] = some (.bl (intB d || blB d), [some d]) := by
    simp only [ev, g_at, isi_i hd, Option.bind_some, Option.map_some, List.getElem?_cons_zero, Option.join_some]
  have a2 : ev (run P k) P.gl (.not (.isi "bool" (.v 0))) [some d] = some (.bl (!blB d), [some d]) := by
    simp only [ev, g_at, isi_b hd, t_bl, Option.bind_some, Option.map_some, List.getElem?_cons_zero, Option.join_some]
  cases d <;> first | exact and_t a1 a2 | exact and_f a1
def twoB : D → Bool
  | .tup l => decide (l.length = 2) && l.all intB
  | _ => false
theorem twoAny {P : Prg} (K : Kr P) (k : Nat) {d : D} (hd : d.any = true) : run P (k + 2) 2 [d, .int 2] = some (.bl (twoB d), []) := by
  refine run_at (fl := .rt (.bl (twoB d))) (e := [some d, some (.int 2), none]) K.f2 rfl ?_ rfl (.inl rfl)
  show exL (run P (k + 1)) P.gl F2.body [some d, some (.int 2), none] = _
  have a1 : ev (run P (k + 1)) P.gl (.isi "tuple" (.v 0)) [some d, some (.int 2), none] = some (.bl (tupB d), [some d, some (.int 2), none]) := by
    simp only [ev, g_at, isi_t hd, Option.bind_some, Option.map_some, List.getElem?_cons_zero, Option.join_some]
  refine ret_at ?_
  cases d with
  | tup l =>
    refine and_t a1 ?_
    have a2 : ev (run P (k + 1)) P.gl (.cmp .eq (.bi .len (.cons (.v 0) .nil)) (.v 1)) [some (.tup l), some (.int 2), none] = some (.bl (decide ((l.length : Int) = 2)), [some (.tup l), some (.int 2), none]) := by
      simp only [ev, evL, g_at, b_lent, c_eqi, Option.bind_some, Option.map_some, List.getElem?_cons_zero, List.getElem?_cons_succ, Option.join_some]
    by_cases hl : l.length = 2
    · rw [decide_eq_true (show (l.length : Int) = 2 by omega)] at a2
      have e : twoB (.tup l) = l.all intB := by
        show (decide (l.length = 2) && l.all intB) = _
        rw [decide_eq_true hl, Bool.true_and]
      rw [e]
      refine and_t a2 (ev_bi1 (lc_ev (ds := l) (g := fun x => .bl (intB x)) ?_ (by have := (any_two hd).1; omega) (by simp) ?_) (b_allB intB l))
      · simp only [evI, ev, g_at, seqOf, Option.bind_some, Option.map_some, List.getElem?_cons_zero, Option.join_some]
      · intro x hx
        have w := intAny K.f1 k (any_tup hd x hx)
        simp only [ev, evA, fillA, outA, lentA, g_at, w, Option.bind_some, Option.map_some, List.getElem?_cons_zero, List.getElem?_cons_succ, Option.join_some, Bool.false_and, Bool.false_eq_true, if_false, List.set_cons_zero, List.set_cons_succ]
    · rw [decide_eq_false (show ¬ (l.length : Int) = 2 by omega)] at a2
      have e : twoB (.tup l) = false := by
        show (decide (l.length = 2) && l.all intB) = _
        rw [decide_eq_false hl, Bool.false_and]
      rw [e]
      exact and_f a2
  | _ => exact and_f a1
theorem reducedB {P : Prg} (K : Kr P) (k : Nat) {a b : Int} : run P (k + 2) 5 [.tup [.int a, .int b]] = some (.bl (decide (Int.gcd a b = 1)), []) := by
  refine run_at (fl := .rt _) (e := [some (.tup [.int a, .int b])]) K.f5 rfl ?_ rfl (.inl rfl)
  show exL (run P (k + 1)) P.gl F5.body [some (.tup [.int a, .int b])] = _
  have e : decide ((Int.gcd a b : Int) = 1) = decide (Int.gcd a b = 1) := by
    rw [Bool.eq_iff_iff, decide_eq_true_eq, decide_eq_true_eq]; omega
  refine ret_at ?_
  rw [← e]
  simp only [ev, evA, fillA, outA, lentA, g_at, divisor K k, c_eqi, Option.bind_some, Option.map_some, List.getElem?_cons_zero, List.getElem?_cons_succ, Option.join_some, Bool.false_and, Bool.false_eq_true, if_false]
theorem two_of {d : D} (h : twoB d = true) : ∃ a b, d = .tup [.int a, .int b] := by
  cases d with
  | tup l =>
    have h' : l.length = 2 ∧ l.all intB = true := by simpa [twoB] using h
    match l, h' with
    | [x, y], h' =>
      have h2 : intB x = true ∧ intB y = true := by simpa using h'.2
      cases x <;> first | (cases h2.1; done) | skip
      cases y <;> first | (cases h2.2; done) | skip
      exact ⟨_, _, rfl⟩
  | _ => cases h
theorem fB_two {d : D} (h : twoB d = false) : fB d = false := by
  cases h2 : fB d with
  | false => rfl
  | true =>
    unfold fB at h2
    split at h2
    · simp [twoB, intB] at h
    · cases h2
/-- is_ratio -/
theorem ratioAny {P : Prg} (K : Kr P) (k : Nat) {d : D} (hd : d.any = true) : run P (k + 3) 9 [d] = some (.bl (fB d), []) := by
  refine run_at (fl := .rt (.bl (fB d))) (e := [some d]) K.f9 rfl ?_ rfl (.inl rfl)
  show exL (run P (k + 2)) P.gl F9.body [some d] = _
  have a1 : ev (run P (k + 2)) P.gl (.call 2 (.val (.v 0) (.val (.int 2) .nil))) [some d] = some (.bl (twoB d), [some d]) := by
    simp only [ev, evA, fillA, outA, lentA, g_at, twoAny K k hd, Option.bind_some, Option.map_some, List.getElem?_cons_zero, Option.join_some, Bool.false_and, Bool.false_eq_true, if_false]
  refine ret_at ?_
  cases h : twoB d with
  | false => rw [h] at a1; rw [fB_two h]; exact and_f a1
  | true =>
    obtain ⟨a, b, rfl⟩ := two_of h
    rw [h] at a1
    refine and_t a1 ?_
    have a2 : ev (run P (k + 2)) P.gl (.cmp .gt (.ix (.v 0) (.int 1)) (.int 0)) [some (.tup [.int a, .int b])] = some (.bl (decide (0 < b)), [some (.tup [.int a, .int b])]) := by
      simp only [ev, g_at, ixt1, c_gt, Option.bind_some, Option.map_some, List.getElem?_cons_zero, Option.join_some]
    have e : fB (.tup [.int a, .int b]) = (decide (0 < b) && decide (Int.gcd a b = 1)) := rfl
    rw [e]
    cases hb : decide (0 < b) with
    | false => rw [hb] at a2; exact and_f a2
    | true =>
      rw [hb] at a2
      rw [Bool.true_and]
      refine and_t a2 (ev_call1 (d := .tup [.int a, .int b]) ?_ (reducedB K k))
      simp only [ev, g_at, Option.bind_some, Option.map_some, List.getElem?_cons_zero, Option.join_some]
/-- are_ratios -/
theorem rowAny {P : Prg} (K : Kr P) (h25 : P.fn 25 = some F25) (k : Nat) {d : D} (hd : d.any = true) : run P (k + 4) 25 [d] = some (.bl (rowB d), []) := by
  refine run_at (fl := .rt (.bl (rowB d))) (e := [some d, none]) h25 rfl ?_ rfl (.inl rfl)
  show exL (run P (k + 3)) P.gl F25.body [some d, none] = _
  have a1 : ev (run P (k + 3)) P.gl (.isi "tuple" (.v 0)) [some d, none] = some (.bl (tupB d), [some d, none]) := by
    simp only [ev, g_at, isi_t hd, Option.bind_some, Option.map_some, List.getElem?_cons_zero, Option.join_some]
  refine ret_at ?_
  cases d with
  | tup l =>
    refine and_t a1 (ev_bi1 (lc_ev (ds := l) (g := fun x => .bl (fB x)) ?_ (by have := (any_two hd).1; omega) (by simp) ?_) (b_allB fB l))
    · simp only [evI, ev, g_at, seqOf, Option.bind_some, Option.map_some, List.getElem?_cons_zero, Option.join_some]
    · intro x hx
      have w := ratioAny K k (any_tup hd x hx)
      simp only [ev, evA, fillA, outA, lentA, g_at, w, Option.bind_some, Option.map_some, List.getElem?_cons_zero, List.getElem?_cons_succ, Option.join_some, Bool.false_and, Bool.false_eq_true, if_false, List.set_cons_zero, List.set_cons_succ]
  | _ => exact and_f a1
end LS
set_option maxHeartbeats 1000000
/-! VU: is_rule, asked of anything. -/
namespace LS
open PySem L2
section
variable {C : CallT} {G : Nat → Option D} {a b c : E} {env : EnD} {p q : Bool} {d : D}
theorem and_b (ha : ev C G a env = some (.bl p, env)) (hb : p = true → ev C G b env = some (.bl q, env)) : ev C G (.and a b) env = some (.bl (p && q), env) := by
  cases p with
  | true => rw [Bool.true_and]; exact and_t ha (hb rfl)
  | false => exact and_f ha
theorem or_b (ha : tst C G a env = some (p, env)) (hb : p = false → tst C G b env = some (q, env)) : tst C G (.or a b) env = some (p || q, env) := by
  simp only [tst]
  rw [ha]
  simp only [Option.bind_some]
  cases p with
  | true => rfl
  | false => simp only [Bool.false_eq_true, if_false, Bool.false_or]; exact hb rfl
theorem not_b (ha : tst C G a env = some (p, env)) : tst C G (.not a) env = some (!p, env) := by
  simp only [tst]
  rw [ha]
  rfl
theorem isi_tst {ty : String} (ha : ev C G a env = some (d, env)) (h : isiF ty d = some (.bl p)) : tst C G (.isi ty a) env = some (p, env) := by
  simp only [tst]
  rw [ha]
  simp only [Option.bind_some, h, t_bl, Option.map_some]
theorem call_tst {f : Nat} (ha : ev C G a env = some (d, env)) (hC : C f [d] = some (.bl p, [])) : tst C G (.call f (.val a .nil)) env = some (p, env) := by
  simp only [tst, evA]
  rw [ha]
  simp only [Option.bind_some, Option.map_some, fillA, hC, lentA, outA, t_bl, Bool.false_and, Bool.false_eq_true, if_false]
theorem cmp_tst {o : Cop} {d e : D} (ha : ev C G a env = some (d, env)) (hb : ev C G b env = some (e, env)) (h : cmpF o d e = some (.bl p)) : tst C G (.cmp o a b) env = some (p, env) := by
  simp only [tst]
  rw [ha]
  simp only [Option.bind_some]
  rw [hb]
  simp only [Option.bind_some, h, s_bl, Option.map_some]
theorem cmp_ev {o : Cop} {d e : D} (ha : ev C G a env = some (d, env)) (hb : ev C G b env = some (e, env)) (h : cmpF o d e = some (.bl p)) : ev C G (.cmp o a b) env = some (.bl p, env) := by
  simp only [ev_cmp]
  rw [ha]
  simp only [Option.bind_some]
  rw [hb]
  simp only [Option.bind_some, h, Option.map_some]
theorem chn_le {x y z : Int} (ha : ev C G a env = some (.int x, env)) (hb : ev C G b env = some (.int y, env)) (hc : ev C G c env = some (.int z, env)) : ev C G (.chn .le .le a b c) env = some (.bl (decide (x ≤ y) && decide (y ≤ z)), env) := by
  simp only [ev]
  rw [ha]
  simp only [Option.bind_some]
  rw [hb]
  simp only [Option.bind_some, c_le, s_bl]
  cases decide (x ≤ y) with
  | true =>
    simp only [if_true]
    rw [hc]
    simp only [Option.bind_some, Option.map_some, c_le, Bool.true_and]
  | false => rfl
theorem ix_ev {i : Int} {e : D} (ha : ev C G a env = some (d, env)) (h : ixF d (.int i) = some e) : ev C G (.ix a (.int i)) env = some (e, env) := by
  simp only [ev]
  rw [ha]
  simp only [Option.bind_some, h, Option.map_some]
theorem ixm_ev {i : Int} {e : D} (ha : ev C G a env = some (d, env)) (h : ixF d (.int (-i)) = some e) : ev C G (.ix a (.neg (.int i))) env = some (e, env) := by
  simp only [ev]
  rw [ha]
  simp only [Option.bind_some, h, Option.map_some]
theorem len_ev {l : List D} (ha : ev C G a env = some (.tup l, env)) : ev C G (.bi .len (.cons a .nil)) env = some (.int (l.length : Int), env) := ev_bi1 ha (b_lent l)
theorem v_ev {i : Nat} (h : getE env i = some d) : ev C G (.v i) env = some (d, env) := by
  simp only [ev]
  rw [h]
  rfl
theorem int_ev {i : Int} : ev C G (.int i) env = some (.int i, env) := by simp only [ev]
/-- if c: return False, then the rest -/
theorem ifs_or {r : SL} {x : Fl} {e2 : EnD} (hc : tst C G c env = some (p, env)) (hp : p = true → (x, e2) = (.rt (.bl false), env)) (hr : p = false → exL C G r env = some (x, e2)) : exL C G (.cons (.ifs c (.cons (.ret (.bl false)) .nil) .nil) r) env = some (x, e2) := by
  cases p with
  | false => exact nx_at (ifs_no hc) (hr rfl)
  | true =>
    rw [hp rfl]
    simp only [exL, exS]
    rw [hc]
    simp only [Option.bind_some, if_true, exL, exS, ev, Option.map_some]
end
theorem ne0_fr {a b : Int} (h : fB (.tup [.int a, .int b]) = true) : cmpF .ne (.tup [.int a, .int b]) (frD 0) = some (.bl (decide (a ≠ 0))) := by
  have h' : 0 < b ∧ Int.gcd a b = 1 := by simpa [fB] using h
  have e : eqD (.tup [.int a, .int b]) (frD 0) = some (a == 0 && (b == 1 && true)) := by
    unfold eqD frD
    simp [D.shp, D.pure, D.pureL, D.py, D.pyL, SeqAt.shaped, PyData.canLay0, PyData.canLayAll0, PyData.depth, PyData.depthAll, PyData.eqv, PyData.eqvAll]
  show (eqD (.tup [.int a, .int b]) (frD 0)).map (fun c => D.bl (!c)) = _
  rw [e]
  simp only [Option.map_some]
  congr 2
  rw [Bool.and_true, Bool.eq_iff_iff]
  by_cases ha : a = 0
  · subst ha
    have hb : b = 1 := by
      have := h'.2
      simp [Int.gcd] at this
      omega
    subst hb
    simp
  · simp [ha]
theorem row_of {d : D} (h : rowB d = true) : ∃ l, d = .tup l ∧ l.all fB = true := by
  cases d <;> first | (cases h; done) | exact ⟨_, rfl, h⟩
theorem fr_of {d : D} (h : fB d = true) : ∃ a b, d = .tup [.int a, .int b] := by
  unfold fB at h
  split at h
  · exact ⟨_, _, rfl⟩
  · cases h
/-- the last of a row that is long enough -/
theorem last_of {l : List D} (h : l.all fB = true) (hl : 2 ≤ l.length) : ∃ m a b, l = m ++ [.tup [.int a, .int b]] ∧ fB (.tup [.int a, .int b]) = true ∧ topB (.tup l) = decide (a ≠ 0) := by
  rcases List.eq_nil_or_concat l with rfl | ⟨m, x, rfl⟩
  · simp at hl
  rw [List.concat_eq_append] at h ⊢
  have hx : fB x = true := by
    rw [List.all_append, Bool.and_eq_true] at h
    simpa using h.2
  obtain ⟨a, b, rfl⟩ := fr_of hx
  refine ⟨m, a, b, rfl, hx, ?_⟩
  show (match (m ++ [D.tup [.int a, .int b]]).getLast? with
    | some (.tup (.int a :: _)) => decide (a ≠ 0)
    | _ => false) = _
  rw [List.getLast?_concat]
theorem ruled_any {P : Prg} (K : Kr P) (h25 : P.fn 25 = some F25) (h61 : P.fn 61 = some F61) (g0 : P.gl 0 = some (frD 0)) (g5 : P.gl 5 = some (.int 8)) (k : Nat) {d : D} (hd : d.any = true) : run P (k + 5) 61 [d] = some (.bl (ruB d), []) := by
  refine run_at (fl := .rt (.bl (ruB d))) (e := [some d]) h61 rfl ?_ rfl (.inl rfl)
  show exL (run P (k + 4)) P.gl F61.body [some d] = _
  have v0 : ev (run P (k + 4)) P.gl (.v 0) [some d] = some (d, [some d]) := v_ev rfl
  have t1 := not_b (isi_tst (ty := "tuple") v0 (isi_t hd))
  by_cases h2 : ∃ r s, d = .tup [r, s]
  · obtain ⟨r, s, rfl⟩ := h2
    have hr := any_tup hd r (by simp)
    have hs := any_tup hd s (by simp)
    have x0 := ix_ev (C := run P (k + 4)) (G := P.gl) v0 ixt0
    have x1 := ix_ev (C := run P (k + 4)) (G := P.gl) v0 ixt1
    have e2 : cmpF .ne (.int (([r, s] : List D).length : Int)) (.int 2) = some (.bl false) := by rw [c_nei]; rfl
    refine ifs_or (p := !rowB r || !rowB s) ?_ ?_ ?_
    · refine or_b (p := false) t1 fun _ => or_b (p := false) (cmp_tst (len_ev v0) int_ev e2) fun _ => or_b (not_b (call_tst x0 (rowAny K h25 k hr))) fun _ => not_b (call_tst x1 (rowAny K h25 k hs))
    · intro hp
      have e : ruB (.tup [r, s]) = false := by
        show (rowB r && rowB s && _) = false
        cases h1 : rowB r <;> cases h2 : rowB s <;> simp_all
      rw [e]
    · intro hp
      have hp' : rowB r = true ∧ rowB s = true := by simpa using hp
      obtain ⟨l, rfl, hl⟩ := row_of hp'.1
      obtain ⟨n, rfl, hn⟩ := row_of hp'.2
      have e : ruB (.tup [.tup l, .tup n]) = ((decide ((2 : Int) ≤ (l.length : Int)) && decide ((l.length : Int) ≤ 8 + 1)) && (decide ((n.length : Int) = (l.length : Int)) && topB (.tup l))) := by
        show (rowB (.tup l) && rowB (.tup n) && (decide (l.length = n.length) && (decide (2 ≤ l.length) && decide (l.length ≤ 9) && topB (.tup l)))) = _
        rw [hp'.1, hp'.2, Bool.true_and, Bool.true_and, Bool.eq_iff_iff]
        simp only [Bool.and_eq_true, decide_eq_true_eq]
        constructor
        · rintro ⟨h1, ⟨h2, h3⟩, h4⟩
          exact ⟨⟨by omega, by omega⟩, by omega, h4⟩
        · rintro ⟨⟨h1, h2⟩, h3, h4⟩
          exact ⟨by omega, ⟨by omega, by omega⟩, h4⟩
      rw [e]
      have v8 : ev (run P (k + 4)) P.gl (.op .add (.g 5) (.int 1)) [some (.tup [.tup l, .tup n])] = some (.int (8 + 1), [some (.tup [.tup l, .tup n])]) := by
        simp only [ev, g5, o_add, Option.bind_some, Option.map_some]
      refine ret_at (and_b (chn_le int_ev (len_ev x0) v8) fun hc => and_b (cmp_ev (len_ev x1) (len_ev x0) c_eqi) fun _ => ?_)
      have l2 : 2 ≤ l.length := by
        rw [Bool.and_eq_true, decide_eq_true_eq, decide_eq_true_eq] at hc
        omega
      obtain ⟨m, a, b, rfl, hf, ht⟩ := last_of hl l2
      rw [ht]
      refine cmp_ev (ixm_ev x0 ixt_last) ?_ (ne0_fr hf)
      simp only [ev, g0, Option.map_some]
  · have e : ruB d = false := by
      unfold ruB
      split
      · exact absurd ⟨_, _, rfl⟩ h2
      · rfl
    refine ifs_or (p := true) ?_ (fun _ => by rw [e]) (fun z => by cases z)
    cases d with
    | tup l =>
      refine or_b (p := false) (q := true) t1 fun _ => or_b (p := true) (q := true) (cmp_tst (len_ev v0) int_ev ?_) fun z => by cases z
      rw [c_nei, decide_eq_false (fun z => h2 ?_)]
      · rfl
      · match l, z with
        | [r, s], _ => exact ⟨r, s, rfl⟩
    | _ => exact or_b (p := true) (q := true) t1 fun z => by cases z
end LS
set_option maxHeartbeats 1000000
/-! VVg: comprehensions with a test. -/
namespace LS
open PySem L2
theorem lcif_run {elt : EnD → Option (D × EnD)} {c : EnD → Option (Bool × EnD)} {i : Nat} {f : D → Bool} {env : EnD} : ∀ {ds : List D} {x : Option D}, (∀ d ∈ ds, c (env.set i (some d)) = some (f d, env.set i (some d)) ∧ elt (env.set i (some d)) = some (d, env.set i (some d))) → ∃ y, lcifL elt c (.n i) [i] ds (env.set i x) = some (ds.filter f, env.set i y)
  | [], x, _ => ⟨x, by unfold lcifL; rfl⟩
  | d :: ds, x, h => by
    obtain ⟨y, hy⟩ := lcif_run (ds := ds) (x := some d) fun e he => h e (List.mem_cons_of_mem _ he)
    obtain ⟨h1, h2⟩ := h d (List.mem_cons_self ..)
    refine ⟨y, ?_⟩
    unfold lcifL
    have e1 : asgT (.n i) d (wipeE (env.set i x) [i]) = some (env.set i (some d)) := by
      show some (((env.set i x).set i none).set i (some d)) = _
      rw [List.set_set, List.set_set]
    rw [e1]
    simp only [Option.bind_some]
    rw [h1]
    simp only [Option.bind_some]
    cases hf : f d with
    | true =>
      simp only [if_true]
      rw [h2]
      simp only [Option.bind_some]
      rw [hy, List.filter_cons_of_pos hf]
      rfl
    | false =>
      simp only [Bool.false_eq_true, if_false]
      rw [hy, List.filter_cons_of_neg (by rw [hf]; decide)]
theorem lcif_ev {C : CallT} {G : Nat → Option D} {elt c : E} {i : Nat} {it : I} {env : EnD} {ds : List D} {f : D → Bool} (hI : evI C G it env = some (ds, env)) (hf : ds.length ≤ 1000000) (hi : i < env.length) (he : ∀ d ∈ ds, tst C G c (env.set i (some d)) = some (f d, env.set i (some d)) ∧ ev C G elt (env.set i (some d)) = some (d, env.set i (some d))) : ev C G (.lcif elt (.n i) it c [i]) env = some (.lst (ds.filter f), env) := by
  obtain ⟨y, hy⟩ := lcif_run (x := (env[i]?).join) he
  rw [set_back hi] at hy
  simp only [ev]
  rw [hI]
  simp only [Option.bind_some, fits, if_pos hf]
  rw [hy]
  simp only [Option.map_some]
  show some (D.lst (ds.filter f), (env.set i y).set i ((env[i]?).join)) = _
  rw [List.set_set, set_back hi]
theorem c_eqnil {m : List D} : cmpF .eq (.lst m) (.lst []) = some (.bl (decide (m = []))) := by
  have e : eqX (.lst m) (.lst []) = some (decide (m = [])) := by
    unfold eqX
    cases h : eqD (.lst m) (.lst []) with
    | some c =>
      unfold eqD at h
      split at h
      · cases h
        cases m with
        | nil => simp [D.py, D.pyL, PyData.eqv, PyData.eqvAll]
        | cons x m => simp [D.py, D.pyL, PyData.eqv, PyData.eqvAll]
      · cases h
    | none =>
      cases m with
      | nil => exact absurd h (by rw [show eqD (.lst []) (.lst []) = some true from rfl]; simp)
      | cons x m => rfl
  show (eqX _ _).map D.bl = _
  rw [e]
  rfl
end LS
set_option maxHeartbeats 1000000
/-! VV: what is a rule, asked of anything: the law's side. -/
namespace LS
open PySem L2
theorem isRuleAny {P : Prg} (K : Kr P) (h25 : P.fn 25 = some F25) (h61 : P.fn 61 = some F61) (h256 : P.fn 256 = some F256) (g0 : P.gl 0 = some (frD 0)) (g5 : P.gl 5 = some (.int 8)) (k : Nat) {d : D} (hd : d.any = true) : run P (k + 6) 256 [d] = some (.bl (ruB d), []) := by
  refine run_at (fl := .rt (.bl (ruB d))) (e := [some d]) h256 rfl ?_ rfl (.inl rfl)
  exact ret_at (ev_call1 (v_ev rfl) (ruled_any K h25 h61 g0 g5 k hd))
structure Li0 (P : Prg) : Prop where
  f171 : P.fn 171 = some F171
  f193 : P.fn 193 = some F193
  f194 : P.fn 194 = some F194
  f195 : P.fn 195 = some F195
structure Li (P : Prg) : Prop extends Li0 P where
  f257 : P.fn 257 = some F257
theorem lawIsF {P : Prg} (L : Li0 P) (k : Nat) {d : D} (hd : d.any = true) : run P (k + 2) 194 [d] = some (.bl (fB d), []) := by
  refine run_at (fl := .rt (.bl (fB d))) (e := [some d]) L.f194 rfl ?_ rfl (.inl rfl)
  show exL (run P (k + 1)) P.gl F194.body [some d] = _
  have v0 : ev (run P (k + 1)) P.gl (.v 0) [some d] = some (d, [some d]) := v_ev rfl
  have t1 := not_b (isi_tst (ty := "tuple") v0 (isi_t hd))
  by_cases h2 : ∃ r s, d = .tup [r, s]
  · obtain ⟨r, s, rfl⟩ := h2
    have hr := any_tup hd r (by simp)
    have hs := any_tup hd s (by simp)
    have x0 := ix_ev (C := run P (k + 1)) (G := P.gl) v0 ixt0
    have x1 := ix_ev (C := run P (k + 1)) (G := P.gl) v0 ixt1
    have e2 : cmpF .ne (.int (([r, s] : List D).length : Int)) (.int 2) = some (.bl false) := by rw [c_nei]; rfl
    refine ifs_or (p := false) (or_b (p := false) t1 fun _ => cmp_tst (len_ev v0) int_ev e2) (fun z => by cases z) fun _ => ?_
    refine ifs_or (or_b (not_b (call_tst x0 (intAny L.f193 k hr))) fun _ => not_b (call_tst x1 (intAny L.f193 k hs))) ?_ ?_
    · intro hp
      have e : fB (.tup [r, s]) = false := by
        cases h : fB (.tup [r, s]) with
        | false => rfl
        | true =>
          obtain ⟨a, b, e⟩ := fr_of h
          have ex : r = .int a := by injection e with e; injection e
          have ey : s = .int b := by injection e with e; injection e with _ e; injection e
          rw [ex, ey] at hp
          cases hp
      rw [e]
    · intro hp
      cases r <;> first | (cases hp; done) | skip
      cases s <;> first | (cases hp; done) | skip
      rename_i a b
      have e : decide ((Int.gcd a b : Int) = 1) = decide (Int.gcd a b = 1) := by
        rw [Bool.eq_iff_iff, decide_eq_true_eq, decide_eq_true_eq]; omega
      have e3 : fB (.tup [.int a, .int b]) = (decide (0 < b) && decide ((Int.gcd a b : Int) = 1)) := by
        rw [e]; rfl
      rw [e3]
      have cl : ev (run P (k + 1)) P.gl (.call 171 (.val (.ix (.v 0) (.int 0)) (.val (.ix (.v 0) (.int 1)) .nil))) [some (.tup [.int a, .int b])] = some (.int (Int.gcd a b : Int), [some (.tup [.int a, .int b])]) := by
        simp only [ev, evA, fillA, outA, lentA, g_at, ixt0, ixt1, shared L.f171, Option.bind_some, Option.map_some, List.getElem?_cons_zero, Option.join_some, Bool.false_and, Bool.false_eq_true, if_false]
      exact ret_at (and_b (cmp_ev x1 int_ev c_gt) fun _ => cmp_ev cl int_ev c_eqi)
  · have e : fB d = false := by
      unfold fB
      split
      · exact absurd ⟨_, _, rfl⟩ h2
      · rfl
    refine ifs_or (p := true) ?_ (fun _ => by rw [e]) (fun z => by cases z)
    cases d with
    | tup l =>
      refine or_b (p := false) (q := true) t1 fun _ => cmp_tst (len_ev v0) int_ev ?_
      rw [c_nei, decide_eq_false (fun z => h2 ?_)]
      · rfl
      · match l, z with
        | [r, s], _ => exact ⟨r, s, rfl⟩
    | _ => exact or_b (p := true) (q := true) t1 fun z => by cases z
theorem filter_nil (l : List D) : decide (l.filter (fun x => !fB x) = []) = l.all fB := by
  rw [Bool.eq_iff_iff, decide_eq_true_eq, List.filter_eq_nil_iff, List.all_eq_true]
  constructor
  · intro h x hx
    have := h x hx
    simpa using this
  · intro h x hx
    rw [h x hx]
    decide
theorem lawIsRow {P : Prg} (L : Li0 P) (k : Nat) {d : D} (hd : d.any = true) : run P (k + 3) 195 [d] = some (.bl (rowB d), []) := by
  refine run_at (fl := .rt (.bl (rowB d))) (e := [some d, none]) L.f195 rfl ?_ rfl (.inl rfl)
  show exL (run P (k + 2)) P.gl F195.body [some d, none] = _
  have v0 : ev (run P (k + 2)) P.gl (.v 0) [some d, none] = some (d, [some d, none]) := v_ev rfl
  have a1 : ev (run P (k + 2)) P.gl (.isi "tuple" (.v 0)) [some d, none] = some (.bl (tupB d), [some d, none]) := by
    simp only [ev, g_at, isi_t hd, Option.bind_some, Option.map_some, List.getElem?_cons_zero, Option.join_some]
  cases d with
  | tup l =>
    have e : rowB (.tup l) = (true && l.all fB) := rfl
    rw [e, ← filter_nil]
    refine ret_at (and_b a1 fun _ => cmp_ev (lcif_ev (ds := l) (f := fun x => !fB x) ?_ (by have := (any_two hd).1; omega) (by simp) ?_) ?_ c_eqnil)
    · simp only [evI, ev, g_at, seqOf, Option.bind_some, Option.map_some, List.getElem?_cons_zero, Option.join_some]
    · intro x hx
      exact ⟨not_b (call_tst (v_ev rfl) (lawIsF L k (any_tup hd x hx))), v_ev rfl⟩
    · simp only [ev, evL, Option.map_some]
  | _ => exact ret_at (and_f a1)
theorem lawIsRule {P : Prg} (L : Li P) (k : Nat) {d : D} (hd : d.any = true) : run P (k + 4) 257 [d] = some (.bl (ruB d), []) := by
  refine run_at (fl := .rt (.bl (ruB d))) (e := [some d]) L.f257 rfl ?_ rfl (.inl rfl)
  show exL (run P (k + 3)) P.gl F257.body [some d] = _
  have v0 : ev (run P (k + 3)) P.gl (.v 0) [some d] = some (d, [some d]) := v_ev rfl
  have t1 := not_b (isi_tst (ty := "tuple") v0 (isi_t hd))
  by_cases h2 : ∃ r s, d = .tup [r, s]
  · obtain ⟨r, s, rfl⟩ := h2
    have hr := any_tup hd r (by simp)
    have hs := any_tup hd s (by simp)
    have x0 := ix_ev (C := run P (k + 3)) (G := P.gl) v0 ixt0
    have x1 := ix_ev (C := run P (k + 3)) (G := P.gl) v0 ixt1
    have e2 : cmpF .ne (.int (([r, s] : List D).length : Int)) (.int 2) = some (.bl false) := by rw [c_nei]; rfl
    refine ifs_or (p := false) (or_b (p := false) t1 fun _ => cmp_tst (len_ev v0) int_ev e2) (fun z => by cases z) fun _ => ?_
    refine ifs_or (or_b (not_b (call_tst x0 (lawIsRow L.toLi0 k hr))) fun _ => not_b (call_tst x1 (lawIsRow L.toLi0 k hs))) ?_ ?_
    · intro hp
      have e : ruB (.tup [r, s]) = false := by
        show (rowB r && rowB s && _) = false
        cases h1 : rowB r <;> cases h2 : rowB s <;> simp_all
      rw [e]
    · intro hp
      have hp' : rowB r = true ∧ rowB s = true := by simpa using hp
      obtain ⟨l, rfl, hl⟩ := row_of hp'.1
      obtain ⟨n, rfl, hn⟩ := row_of hp'.2
      have e : ruB (.tup [.tup l, .tup n]) = (decide ((l.length : Int) = (n.length : Int)) && ((decide ((2 : Int) ≤ (l.length : Int)) && decide ((l.length : Int) ≤ 9)) && topB (.tup l))) := by
        show (rowB (.tup l) && rowB (.tup n) && (decide (l.length = n.length) && (decide (2 ≤ l.length) && decide (l.length ≤ 9) && topB (.tup l)))) = _
        rw [hp'.1, hp'.2, Bool.true_and, Bool.true_and, Bool.eq_iff_iff]
        simp only [Bool.and_eq_true, decide_eq_true_eq]
        constructor
        · rintro ⟨h1, ⟨h2, h3⟩, h4⟩
          exact ⟨by omega, ⟨by omega, by omega⟩, h4⟩
        · rintro ⟨h3, ⟨h1, h2⟩, h4⟩
          exact ⟨by omega, ⟨by omega, by omega⟩, h4⟩
      rw [e]
      refine ret_at (and_b (cmp_ev (len_ev x0) (len_ev x1) c_eqi) fun _ => and_b (chn_le int_ev (len_ev x0) int_ev) fun hc => ?_)
      have l2 : 2 ≤ l.length := by
        rw [Bool.and_eq_true, decide_eq_true_eq, decide_eq_true_eq] at hc
        omega
      obtain ⟨m, a, b, rfl, hf, ht⟩ := last_of hl l2
      rw [ht]
      have en : cmpF .ne (.int a) (.int 0) = some (.bl (decide (a ≠ 0))) := by
        rw [c_nei]
        by_cases z : a = 0 <;> simp [z]
      exact cmp_ev (ix_ev (ixm_ev x0 ixt_last) ixt0) int_ev en
  · have e : ruB d = false := by
      unfold ruB
      split
      · exact absurd ⟨_, _, rfl⟩ h2
      · rfl
    refine ifs_or (p := true) ?_ (fun _ => by rw [e]) (fun z => by cases z)
    cases d with
    | tup l =>
      refine or_b (p := false) (q := true) t1 fun _ => cmp_tst (len_ev v0) int_ev ?_
      rw [c_nei, decide_eq_false (fun z => h2 ?_)]
      · rfl
      · match l, z with
        | [r, s], _ => exact ⟨r, s, rfl⟩
    | _ => exact or_b (p := true) (q := true) t1 fun z => by cases z
end LS
set_option maxHeartbeats 1000000
/-! VEa: the law's sum. -/
namespace LS
open PySem L2
theorem div_add (a b : Rat) : Rat.divInt (a.num * b.den + b.num * a.den) (a.den * b.den) = a + b := by
  rw [Rat.divInt_eq_div, Rat.intCast_add, Rat.intCast_mul, Rat.intCast_mul, Rat.intCast_mul]
  have ha := as_div a
  have hb := as_div b
  have da := den_ne a
  have db := den_ne b
  generalize (a.num : Rat) = x at *
  generalize (b.num : Rat) = y at *
  generalize ((a.den : Int) : Rat) = u at *
  generalize ((b.den : Int) : Rat) = v at *
  grind
theorem lawAdd {P : Prg} (h1 : P.fn 171 = some F171) (h2 : P.fn 172 = some F172) (h3 : P.fn 185 = some F185) (k : Nat) {a b : Rat} {n m : Nat} (ha : Sz n a) (hb : Sz m b) (hn : n ≤ 3900) (hm : m ≤ 3900) : run P (k + 3) 185 [frD a, frD b] = some (frD (a + b), []) := by
  obtain ⟨_, s2, s3, _⟩ := sm_num ha hb hn hm
  obtain ⟨_, _, s4, _⟩ := sm_num hb ha hm hn
  have hz : ((a.den : Int) * (b.den : Int)).natAbs < 2 ^ 8000 := by
    rw [Int.natAbs_mul, Int.natAbs_natCast, Int.natAbs_natCast]
    refine Nat.lt_of_lt_of_le (Nat.mul_lt_mul'' ha.2 hb.2) ?_
    rw [← Nat.pow_add]
    exact Nat.pow_le_pow_right (by decide) (by omega)
  have hd : (a.den : Int) * (b.den : Int) ≠ 0 := by
    have := a.den_pos
    have := b.den_pos
    exact Int.mul_ne_zero (by omega) (by omega)
  have e := lawF h1 h2 k (a := a.num * b.den + b.num * a.den) hd hz
  rw [div_add] at e
  refine run_at (fl := .rt (frD (a + b))) (e := [some (frD a), some (frD b)]) h3 rfl ?_ rfl (.inl rfl)
  show exL (run P (k + 2)) P.gl F185.body [some (frD a), some (frD b)] = _
  unfold frD at e ⊢
  simp only [F185, exL, exS, ev, evA, fillA, outA, lentA, g_at, ixt0, ixt1, o_mul s2, o_mul s3, o_mul s4, o_add, e, Option.bind_some, Option.map_some, List.getElem?_cons_zero, List.getElem?_cons_succ, Option.join_some, Bool.false_and, Bool.false_eq_true, if_false]
end LS
set_option maxHeartbeats 1000000
/-! VH: rows of drawn fractions. -/
namespace LS
open PySem L2
abbrev anB : SL := .cons (.app 2 (.call 173 (.io 0 .nil))) .nil
theorem anB_at {C : CallT} {G : Nat → Option D} {v v' mm x d : D} {l : List D} (h : C 173 [v] = some (d, [v'])) (hl : l.length < 1000000) : exL C G anB [some v, some mm, some (.lst l), some x] = some (.nx, [some v', some mm, some (.lst (l ++ [d])), some x]) := by
  simp only [exL, exS, ev, evA, fillA, outA, lentA, g_at, h, if_pos hl, Option.bind_some, Option.map_some, List.getElem?_cons_zero, List.getElem?_cons_succ, Option.join_some, Bool.false_and, Bool.false_eq_true, if_false, List.set_cons_zero, List.set_cons_succ]
theorem anys_turns {P : Prg} (h0 : P.fn 169 = some F169) (h00 : P.fn 170 = some F170) (h1 : P.fn 171 = some F171) (h2 : P.fn 172 = some F172) (h3 : P.fn 173 = some F173) (k : Nat) {G : Nat → Option D} {mm : D} : ∀ (ds : List D) {B : Nat} {v : D} {l : List D} {x : Option D}, Vn B v → B + 3 * ds.length < 2 ^ 49 → l.length + ds.length ≤ 1000 →
    ∃ (v' : D) (qs : List Rat) (x' : Option D), forL (fun e => exL (run P (k + 3)) G anB e) (.n 3) ds [some v, some mm, some (.lst l), x] = some (.nx, [some v', some mm, some (.lst (l ++ qs.map frD)), x']) ∧ Vn (B + 3 * ds.length) v' ∧ qs.length = ds.length ∧ ∀ q ∈ qs, Sz 7 q
  | [], B, v, l, x, hv, hB, hl => ⟨v, [], x, by unfold forL; rw [List.map_nil, List.append_nil], hv, rfl, fun q hq => by cases hq⟩
  | d :: ds, B, v, l, x, hv, hB, hl => by
    rw [List.length_cons] at hB hl
    obtain ⟨q, v1, a1, a2, a3⟩ := lawAny h0 h00 h1 h2 h3 k hv (by omega)
    obtain ⟨v2, qs, x2, b1, b2, b3, b4⟩ := anys_turns h0 h00 h1 h2 h3 k (G := G) (mm := mm) ds (l := l ++ [frD q]) (x := some d) a2 (by omega) (by rw [List.length_append]; simp; omega)
    refine ⟨v2, q :: qs, x2, ?_, by rw [List.length_cons, show B + 3 * (ds.length + 1) = B + 3 + 3 * ds.length by omega]; exact b2, by rw [List.length_cons, List.length_cons, b3], fun p hp => (List.mem_cons.mp hp).elim (fun e => e ▸ a3) (b4 p)⟩
    unfold forL
    have e : asgT (.n 3) d [some v, some mm, some (.lst l), x] = some [some v, some mm, some (.lst l), some d] := rfl
    rw [e]
    simp only [Option.bind_some]
    rw [anB_at a1 (by omega)]
    simp only [Option.bind_some]
    rw [b1, List.append_assoc]
    rfl
theorem okR_n {n : Nat} (h : n ≤ 1000) : okR (n : Int) = true := by
  have h1 : (n : Int) < 2 ^ 62 := by omega
  have h2 : -(2 ^ 62) ≤ (n : Int) := by omega
  unfold okR
  rw [Bool.and_eq_true]
  exact ⟨decide_eq_true h2, decide_eq_true h1⟩
theorem rngZ_at {C : CallT} {G : Nat → Option D} {e : E} {env env' : EnD} {z : Int} (h : ev C G e env = some (.int z, env')) (ho : okR z = true) : evI C G (.rng1 e) env = some (rng 0 z.toNat, env') := by
  simp only [evI]
  rw [h]
  simp only [Option.bind_some]
  exact if_pos ho
theorem rng1_at {C : CallT} {G : Nat → Option D} {e : E} {env env' : EnD} {n : Nat} (h : ev C G e env = some (.int (n : Int), env')) (hn : n ≤ 1000) : evI C G (.rng1 e) env = some (rng 0 n, env') := by
  have a := rngZ_at h (okR_n hn)
  have b : ((n : Int)).toNat = n := Int.toNat_natCast n
  exact a.trans (congrArg (fun m => some (rng 0 m, env')) b)
theorem anys_for {C : CallT} {G : Nat → Option D} {n : Nat} {v v1 : D} {l : List D} {x : Option D} (hn : n ≤ 1000) (a1 : forL (fun e => exL C G anB e) (.n 3) (rng 0 n) [some v, some (.int n), some (.lst []), none] = some (.nx, [some v1, some (.int n), some (.lst l), x])) : exS C G (.for_ (.n 3) (.rng1 (.v 1)) anB) [some v, some (.int n), some (.lst []), none] = some (.nx, [some v1, some (.int n), some (.lst l), x]) := by
  have hI := rng1_at (C := C) (G := G) (e := .v 1) (n := n) (env := [some v, some (.int n), some (.lst []), none]) (env' := [some v, some (.int n), some (.lst []), none]) (by simp only [ev, g_at, Option.map_some, List.getElem?_cons_zero, List.getElem?_cons_succ, Option.join_some]) hn
  simp only [exS, hI, Option.bind_some]
  exact a1
theorem anys_body {C : CallT} {G : Nat → Option D} {n : Nat} {v v1 : D} {l : List D} {x : Option D} (hf : exS C G (.for_ (.n 3) (.rng1 (.v 1)) anB) [some v, some (.int n), some (.lst []), none] = some (.nx, [some v1, some (.int n), some (.lst l), x])) : exL C G (.cons (.own 2 (.lst .nil)) (.cons (.for_ (.n 3) (.rng1 (.v 1)) anB) (.cons (.retO 2) .nil))) [some v, some (.int n), none, none] = some (.rt (.lst l), [some v1, some (.int n), some (.lst l), x]) := by
  have h0' : exS C G (.own 2 (.lst .nil)) [some v, some (.int n), none, none] = some (.nx, [some v, some (.int n), some (.lst []), none]) := by
    simp only [exS, ev, evL, Option.bind_some, Option.map_some, List.set_cons_zero, List.set_cons_succ]
  exact nx_at h0' (nx_at hf (retO_at rfl))
theorem lawAnys {P : Prg} (h0 : P.fn 169 = some F169) (h00 : P.fn 170 = some F170) (h1 : P.fn 171 = some F171) (h2 : P.fn 172 = some F172) (h3 : P.fn 173 = some F173) (h4 : P.fn 199 = some F199) (k : Nat) {B n : Nat} {v : D} (hv : Vn B v) (hB : B < 1000000) (hn : n ≤ 1000) : ∃ (qs : List Rat) (v' : D), run P (k + 4) 199 [v, .int n] = some (.lst (qs.map frD), [v']) ∧ Vn (B + 3 * n) v' ∧ qs.length = n ∧ ∀ q ∈ qs, Sz 7 q := by
  obtain ⟨v1, qs, x, a1, a2, a3, a4⟩ := anys_turns h0 h00 h1 h2 h3 k (G := P.gl) (mm := .int n) (rng 0 n) (l := []) (x := none) hv (Nat.lt_of_lt_of_le (show B + 3 * (rng 0 n).length < 2000000 by rw [rng_len]; omega) (by decide)) (by rw [rng_len]; simp; omega)
  rw [rng_len] at a2 a3
  rw [List.nil_append] at a1
  have hb := anys_body (anys_for hn a1)
  exact ⟨qs, v1, run_at (fl := .rt (.lst (qs.map frD))) (e := [some v1, some (.int n), some (.lst (qs.map frD)), x]) h4 rfl hb rfl (.inr ⟨_, rfl⟩), a2, a3, a4⟩
end LS
set_option maxHeartbeats 1000000
/-! VP: the source of draws; drawn rules. -/
namespace LS
open PySem L2
abbrev vB : SL := .cons (.asg (.n 3) (.op .mod (.bi .int (.cons (.op .add (.op .add (.op .mul (.v 3) (.int 44041)) (.op .mod (.bi .int (.cons (.v 4) .nil)) (.int 2147483489))) (.int 37)) .nil)) (.int 2147483489))) .nil
theorem vein_turns {C : CallT} {G : Nat → Option D} {s t ce : Option D} : ∀ (c : List Int) {m : Int} {x : Option D}, 0 ≤ m → m < 2147483489 → ∃ (m' : Int) (x' : Option D), forL (fun e => exL C G vB e) (.n 4) (c.map .int) [s, t, ce, some (.int m), x] = some (.nx, [s, t, ce, some (.int m'), x']) ∧ 0 ≤ m' ∧ m' < 2147483489
  | [], m, x, h0, h1 => ⟨m, x, by unfold forL; rfl, h0, h1⟩
  | i :: c, m, x, h0, h1 => by
    have sm : smallMul m 44041 = true := small_of (big_of (b := 62) (by omega) (by decide)) (by decide)
    have hb : exL C G vB [s, t, ce, some (.int m), some (.int i)] = some (.nx, [s, t, ce, some (.int ((m * 44041 + i.fmod 2147483489 + 37).fmod 2147483489)), some (.int i)]) := by
      simp only [vB, exL, exS, ev, evL, g_at, asgT, b_int, o_add, o_mul sm, o_mod (show (2147483489 : Int) ≠ 0 by decide), Option.bind_some, Option.map_some, List.getElem?_cons_zero, List.getElem?_cons_succ, Option.join_some, List.set_cons_zero, List.set_cons_succ]
    obtain ⟨m', x', h2, h3, h4⟩ := vein_turns (C := C) (G := G) (s := s) (t := t) (ce := ce) c (m := (m * 44041 + i.fmod 2147483489 + 37).fmod 2147483489) (x := some (.int i)) (mod_pos (by decide)).1 (mod_pos (by decide)).2
    refine ⟨m', x', ?_, h3, h4⟩
    rw [List.map_cons]
    unfold forL
    rw [show asgT (.n 4) (.int i) [s, t, ce, some (.int m), x] = some [s, t, ce, some (.int m), some (.int i)] from rfl]
    simp only [Option.bind_some]
    rw [hb]
    simp only [Option.bind_some]
    exact h2
theorem ints_map (c : List Int) : intsD (c.map .int) = some c := by
  induction c with
  | nil => rfl
  | cons i c ih => simp only [List.map_cons, intsD, ih, Option.map_some]
theorem b_sum (c : List Int) : biF .sum [.lst (c.map .int)] = some (.int c.sum) := by
  show (intsD _).map _ = _
  rw [ints_map]; rfl
theorem o_pow18 : opF .pow (.int 10) (.int 18) = some (.int 1000000000000000000) := by
  show (if (0 : Int) ≤ 18 ∧ (18 : Int) ≤ 1000000 ∧ (10 : Int).natAbs < 2 ^ 64 then some (D.int ((10 : Int) ^ (18 : Int).toNat)) else none) = _
  rw [if_pos (by decide)]
  rfl
theorem b_lens {l : List Int} : biF .len [.scr l] = some (.int l.length) := rfl
theorem sl_scr {l : List Int} {n : Int} : slF (.scr l) none (some n) = some (.lst ((cutD l none (some n)).map .int)) := rfl
theorem cut_len {l : List Int} {n : Int} : (cutD l none (some n)).length ≤ l.length := by
  unfold cutD
  rw [List.length_take, List.length_drop]
  omega
theorem vein_cell {C : CallT} {G : Nat → Option D} {ns : List Int} {t : Nat} (ht : t ≤ 63) {x y z : Option D} : ∃ c : Int, ev C G (.ife (.cmp .lt (.v 1) (.bi .len (.cons (.v 0) .nil))) (.bi .int (.cons (.ix (.v 0) (.v 1)) .nil)) (.op .add (.op .add (.op .mul (.int 7451) (.v 1)) (.int 883)) (.op .mod (.bi .int (.cons (.bi .sum (.cons (.sl (.v 0) .no (.so (.int 7))) .nil)) .nil)) (.int 999983)))) [some (.scr ns), some (.int (t : Int)), x, y, z] = some (.int c, [some (.scr ns), some (.int (t : Int)), x, y, z]) := by
  by_cases h : (t : Int) < (ns.length : Int)
  · have hi : ixF (.scr ns) (.int (t : Int)) = some (.int (ns[t]'(by omega))) := by
      show (atI ns (t : Int)).map D.int = _
      rw [at_in (by omega) h, Int.toNat_natCast, List.getElem?_eq_getElem (by omega)]
      rfl
    refine ⟨ns[t]'(by omega), ?_⟩
    simp only [ev, tst, evL, g_at, b_lens, c_lt, s_bl, decide_eq_true h, hi, b_int, Option.bind_some, Option.map_some, List.getElem?_cons_zero, List.getElem?_cons_succ, Option.join_some, if_true]
  · have sm : smallMul 7451 (t : Int) = true := small_of (by decide) (big_of (b := 62) (by omega) (by decide))
    refine ⟨7451 * (t : Int) + 883 + (cutD ns none (some 7)).sum.fmod 999983, ?_⟩
    simp only [ev, evO, tst, evL, g_at, b_lens, c_lt, s_bl, decide_eq_false h, sl_scr, b_sum, b_int, o_mul sm, o_add, o_mod (show (999983 : Int) ≠ 0 by decide), Option.bind_some, Option.map_some, List.getElem?_cons_zero, List.getElem?_cons_succ, Option.join_some, Bool.false_eq_true, if_false]
theorem lawVein {P : Prg} (h : P.fn 168 = some F168) (k : Nat) {ns : List Int} (hl : ns.length ≤ 63) {t : Nat} (ht : t ≤ 63) : ∃ a m : Int, run P (k + 1) 168 [.scr ns, .int (t : Int)] = some (.lst [.int a, .int m, .int 0], []) ∧ 0 ≤ m ∧ m < 2147483549 := by
  obtain ⟨c, hc⟩ := vein_cell (C := run P k) (G := P.gl) (ns := ns) ht (x := none) (y := none) (z := none)
  have sm : smallMul 4127 (t : Int) = true := small_of (by decide) (big_of (b := 62) (by omega) (by decide))
  obtain ⟨m, x, h1, h2, h3⟩ := vein_turns (C := run P k) (G := P.gl) (s := some (.scr ns)) (t := some (.int (t : Int))) (ce := some (.int c)) (cutD ns none (some 63) ++ [c]) (m := 52361 + 4127 * (t : Int)) (x := none) (by omega) (by omega)
  have hr : ∃ a : Int, ev (run P k) P.gl (.lst (.cons (.ife (.or (.cmp .lt (.v 2) (.int 0)) (.cmp .ge (.v 2) (.op .pow (.int 10) (.int 18)))) (.bi .abs (.cons (.v 2) .nil)) (.int 0)) (.cons (.v 3) (.cons (.int 0) .nil)))) [some (.scr ns), some (.int (t : Int)), some (.int c), some (.int m), x] = some (.lst [.int a, .int m, .int 0], [some (.scr ns), some (.int (t : Int)), some (.int c), some (.int m), x]) := by
    by_cases z1 : c < 0
    · refine ⟨(c.natAbs : Int), ?_⟩
      simp only [ev, tst, evL, g_at, c_lt, s_bl, decide_eq_true z1, b_abs, Option.bind_some, Option.map_some, List.getElem?_cons_zero, List.getElem?_cons_succ, Option.join_some, if_true]
    · by_cases z2 : 1000000000000000000 ≤ c
      · refine ⟨(c.natAbs : Int), ?_⟩
        simp only [ev, tst, evL, g_at, c_lt, c_ge, s_bl, decide_eq_false z1, decide_eq_true z2, o_pow18, b_abs, Option.bind_some, Option.map_some, List.getElem?_cons_zero, List.getElem?_cons_succ, Option.join_some, Bool.false_eq_true, if_false, if_true]
      · refine ⟨0, ?_⟩
        simp only [ev, tst, evL, g_at, c_lt, c_ge, s_bl, decide_eq_false z1, decide_eq_false z2, o_pow18, b_abs, Option.bind_some, Option.map_some, List.getElem?_cons_zero, List.getElem?_cons_succ, Option.join_some, Bool.false_eq_true, if_false]
  obtain ⟨a, ha⟩ := hr
  refine ⟨a, m, run_at (fl := .rt (.lst [.int a, .int m, .int 0])) (e := [some (.scr ns), some (.int (t : Int)), some (.int c), some (.int m), x]) h rfl ?_ rfl (.inr ⟨_, rfl⟩), h2, by omega⟩
  show exL (run P k) P.gl F168.body [some (.scr ns), some (.int (t : Int)), none, none, none] = _
  have hs : (List.map D.int (cutD ns none (some 63))).length + [D.int c].length ≤ sizeLine := by
    rw [List.length_map, List.length_singleton]
    have z : sizeLine = 16777216 := by decide
    have := cut_len (l := ns) (n := 63)
    omega
  refine nx_at (env' := [some (.scr ns), some (.int (t : Int)), some (.int c), none, none]) (asg_at hc rfl) (nx_at (env' := [some (.scr ns), some (.int (t : Int)), some (.int c), some (.int (52361 + 4127 * (t : Int))), none]) (asg_at (env' := [some (.scr ns), some (.int (t : Int)), some (.int c), none, none]) (d := .int (52361 + 4127 * (t : Int))) ?_ rfl) (nx_at (env' := [some (.scr ns), some (.int (t : Int)), some (.int c), some (.int m), x]) ?_ ?_))
  · simp only [ev, g_at, o_mul sm, o_add, Option.bind_some, Option.map_some, List.getElem?_cons_zero, List.getElem?_cons_succ, Option.join_some]
  · have hI : evI (run P k) P.gl (.seq (.op .add (.sl (.v 0) .no (.so (.int 63))) (.lst (.cons (.v 2) .nil)))) [some (.scr ns), some (.int (t : Int)), some (.int c), some (.int (52361 + 4127 * (t : Int))), none] = some ((cutD ns none (some 63) ++ [c]).map .int, [some (.scr ns), some (.int (t : Int)), some (.int c), some (.int (52361 + 4127 * (t : Int))), none]) := by
      simp only [evI, ev, evL, evO, g_at, sl_scr, o_lst hs, seqOf, Option.bind_some, Option.map_some, List.getElem?_cons_zero, List.getElem?_cons_succ, Option.join_some]
      rw [List.map_append]
      rfl
    simp only [exS]
    rw [hI]
    simp only [Option.bind_some]
    exact h1
  · simp only [exL, exS]
    rw [ha]
    simp only [Option.bind_some]
structure Lw0 (P : Prg) : Prop where
  f168 : P.fn 168 = some F168
  f169 : P.fn 169 = some F169
  f170 : P.fn 170 = some F170
  f171 : P.fn 171 = some F171
  f172 : P.fn 172 = some F172
  f173 : P.fn 173 = some F173
  f199 : P.fn 199 = some F199
structure Lw1 (P : Prg) : Prop extends Lw0 P where
  f206 : P.fn 206 = some F206
structure Lw (P : Prg) : Prop extends Lw1 P where
  f258 : P.fn 258 = some F258
  f259 : P.fn 259 = some F259
theorem lt60 {B : Nat} (h : B < 2000000) : B < 2 ^ 60 := Nat.lt_of_lt_of_le h (by decide)
theorem lt50 {B : Nat} (h : B < 2000000) : B < 2 ^ 50 := Nat.lt_of_lt_of_le h (by decide)
theorem lawSteps {P : Prg} (L : Lw P) (k : Nat) {B : Nat} {v : D} (hv : Vn B v) (hB : B < 2000000) : ∃ (n : Nat) (v' : D), run P (k + 3) 258 [v] = some (.int (n : Int), [v']) ∧ Vn (B + 1) v' ∧ 1 ≤ n ∧ n ≤ 8 := by
  obtain ⟨x, v1, a1, a2, a3⟩ := choice L.f169 L.f170 k (l := [.int 1, .int 1, .int 2, .int 2, .int 2, .int 3, .int 3, .int 4, .int 5, .int 8]) hv (by simp) (by decide) (lt60 hB)
  have hx : ∃ n : Nat, x = .int (n : Int) ∧ 1 ≤ n ∧ n ≤ 8 := by
    simp only [List.mem_cons, List.not_mem_nil, or_false] at a3
    rcases a3 with rfl | rfl | rfl | rfl | rfl | rfl | rfl | rfl | rfl | rfl
    · exact ⟨1, rfl, by decide, by decide⟩
    · exact ⟨1, rfl, by decide, by decide⟩
    · exact ⟨2, rfl, by decide, by decide⟩
    · exact ⟨2, rfl, by decide, by decide⟩
    · exact ⟨2, rfl, by decide, by decide⟩
    · exact ⟨3, rfl, by decide, by decide⟩
    · exact ⟨3, rfl, by decide, by decide⟩
    · exact ⟨4, rfl, by decide, by decide⟩
    · exact ⟨5, rfl, by decide, by decide⟩
    · exact ⟨8, rfl, by decide, by decide⟩
  obtain ⟨n, rfl, n1, n2⟩ := hx
  refine ⟨n, v1, run_at (fl := .rt (.int (n : Int))) (e := [some v1]) L.f258 rfl ?_ rfl (.inl rfl), a2, n1, n2⟩
  show exL (run P (k + 2)) P.gl F258.body [some v] = _
  refine ret_at ?_
  simp only [ev, evL, evA, fillA, outA, lentA, g_at, a1, Option.bind_some, Option.map_some, List.getElem?_cons_zero, Option.join_some, Bool.false_and, Bool.false_eq_true, if_false, List.set_cons_zero]
theorem lawRule {P : Prg} (L : Lw P) (k : Nat) {B : Nat} {v : D} (hv : Vn B v) (hB : B < 900000) : ∃ (m bs : List Rat) (x : Rat) (v' : D), run P (k + 5) 259 [v] = some (ruD (m ++ [x]) bs, [v']) ∧ Vn (B + 100) v' ∧ x ≠ 0 ∧ Sz 7 x ∧ (∀ q ∈ m, Sz 7 q) ∧ (∀ q ∈ bs, Sz 7 q) ∧ 1 ≤ m.length ∧ m.length ≤ 8 ∧ bs.length = m.length + 1 := by
  obtain ⟨n, v1, a1, a2, a3, a4⟩ := lawSteps L (k + 1) hv (by omega)
  obtain ⟨m, v2, b1, b2, b3, b4⟩ := lawAnys L.f169 L.f170 L.f171 L.f172 L.f173 L.f199 k (n := n) a2 (by omega) (by omega)
  obtain ⟨x, v3, c1, c2, c3, c4⟩ := lawSome L.f169 L.f170 L.f171 L.f172 L.f206 (k + 1) b2 (lt50 (by omega))
  obtain ⟨bs, v4, d1, d2, d3, d4⟩ := lawAnys L.f169 L.f170 L.f171 L.f172 L.f173 L.f199 k (n := n + 1) c2 (by omega) (by omega)
  have hs : (m.map frD).length + [frD x].length ≤ sizeLine := by
    rw [List.length_map, List.length_singleton]
    have z : sizeLine = 16777216 := by decide
    omega
  have en : ((n : Int) + 1) = (((n + 1 : Nat)) : Int) := by omega
  refine ⟨m, bs, x, v4, run_at (fl := .rt (ruD (m ++ [x]) bs)) (e := [some v4, some (.int (n : Int)), some (.lst ((m ++ [x]).map frD))]) L.f259 rfl ?_ rfl (.inl rfl), ?_, c4, c3, b4, d4, by omega, by omega, by omega⟩
  · show exL (run P (k + 4)) P.gl F259.body [some v, none, none] = _
    refine nx_at (env' := [some v1, some (.int (n : Int)), none]) (asg_at (d := .int (n : Int)) (env' := [some v1, none, none]) ?_ rfl) (nx_at (env' := [some v3, some (.int (n : Int)), some (.lst ((m ++ [x]).map frD))]) (asg_at (d := .lst ((m ++ [x]).map frD)) (env' := [some v3, some (.int (n : Int)), none]) ?_ rfl) (ret_at ?_))
    · simp only [ev, evA, fillA, outA, lentA, g_at, a1, Option.bind_some, Option.map_some, List.getElem?_cons_zero, Option.join_some, Bool.false_and, Bool.false_eq_true, if_false, List.set_cons_zero]
    · rw [map_snoc]
      simp only [ev, evL, evA, fillA, outA, lentA, g_at, b1, c1, o_lst hs, Option.bind_some, Option.map_some, List.getElem?_cons_zero, List.getElem?_cons_succ, Option.join_some, Bool.false_and, Bool.false_eq_true, if_false, List.set_cons_zero]
    · simp only [ev, evL, evA, fillA, outA, lentA, g_at, b_tuple, o_add, en, d1, Option.bind_some, Option.map_some, List.getElem?_cons_zero, List.getElem?_cons_succ, Option.join_some, Bool.false_and, Bool.false_eq_true, if_false, List.set_cons_zero]
      rfl
  · obtain ⟨a, m', c, e, h1, h2, h3, h4⟩ := d2
    exact ⟨a, m', c, e, h1, by omega, h3, h4⟩
end LS
set_option maxHeartbeats 2000000
/-! VW: things of any sort, near fractions. -/
namespace LS
open PySem L2
section
variable {C : CallT} {G : Nat → Option D} {a b c : E} {env : EnD} {d : D}
theorem ifs_yes {x y r : SL} {e1 e2 : EnD} (h : tst C G c env = some (true, e1)) (hb : exL C G x e1 = some (.rt d, e2)) : exL C G (.cons (.ifs c x y) r) env = some (.rt d, e2) := by
  simp only [exL, exS]
  rw [h]
  simp only [Option.bind_some, if_true]
  rw [hb]
  simp only [Option.bind_some]
end
theorem o_pow25 : opF .pow (.int 10) (.int 25) = some (.int 10000000000000000000000000) := by
  show (if (0 : Int) ≤ 25 ∧ (25 : Int) ≤ 1000000 ∧ (10 : Int).natAbs < 2 ^ 64 then some (D.int ((10 : Int) ^ (25 : Int).toNat)) else none) = _
  rw [if_pos (by decide)]
  rfl
theorem o_pow6 : opF .pow (.int 10) (.int 6) = some (.int 1000000) := by
  show (if (0 : Int) ≤ 6 ∧ (6 : Int) ≤ 1000000 ∧ (10 : Int).natAbs < 2 ^ 64 then some (D.int ((10 : Int) ^ (6 : Int).toNat)) else none) = _
  rw [if_pos (by decide)]
  rfl
abbrev f2 (a b : Int) : D := .tup [.int a, .int b]
def oddA : List D := [.non, .bl true, .bl false, .int 0, .int 1, .int (-3), .int 10000000000000000000000000, .str "", .str "0/1", .str "rule", .dic [] [], .dic [.inr "a"] [.int 0], .lst [], .lst [.int 0, .int 1], .lst [f2 0 1, f2 1 1]]
def oddB : List D := [f2 0 1, f2 1 1, f2 (-2) 3, f2 3 6, f2 1 0, f2 2 (-1), f2 0 5, .tup [.bl true, .int 2], .tup [.int 1, .bl false], .tup [.int 1, .int 2, .int 3], .tup [], .tup [.int 4]]
def oddC : List D := [.tup [f2 0 1, f2 1 1], .tup [.tup [f2 1 1, f2 1 1], .tup [f2 1 1, f2 0 1]], .tup [f2 0 1], .tup [f2 1 2, f2 0 3], .tup [.tup [f2 0 1], .int 1]]
def oddD : List D := oddA ++ oddB ++ oddC ++ [.tup [.non, .int 1]]
theorem odd_any : ∀ x ∈ oddD, x.any = true := by
  have h : oddD.all D.any = true := by
    simp [oddD, oddA, oddB, oddC, D.any, D.anyL]
  exact List.all_eq_true.mp h
theorem oddD_len : oddD.length = 33 := rfl
theorem lawOdd {P : Prg} (L : Lw0 P) (h : P.fn 174 = some F174) (k : Nat) {B : Nat} {v : D} (hv : Vn B v) (hB : B < 1000000) : ∃ (x v' : D), run P (k + 3) 174 [v] = some (x, [v']) ∧ Vn (B + 1) v' ∧ x.any = true := by
  obtain ⟨x, v1, a1, a2, a3⟩ := choice L.f169 L.f170 k (l := oddD) hv (by simp [oddD, oddA]) (by rw [oddD_len]; decide) (lt60 (by omega))
  refine ⟨x, v1, run_at (fl := .rt x) (e := [some v1, some (.lst oddA), some (.lst oddB), some (.lst oddC)]) h rfl ?_ rfl (.inl rfl), a2, odd_any x a3⟩
  show exL (run P (k + 2)) P.gl F174.body [some v, none, none, none] = _
  refine nx_at (env' := [some v, some (.lst oddA), none, none]) (asg_at (d := .lst oddA) (env' := [some v, none, none, none]) ?_ rfl) (nx_at (env' := [some v, some (.lst oddA), some (.lst oddB), none]) (asg_at (d := .lst oddB) (env' := [some v, some (.lst oddA), none, none]) ?_ rfl) (nx_at (env' := [some v, some (.lst oddA), some (.lst oddB), some (.lst oddC)]) (asg_at (d := .lst oddC) (env' := [some v, some (.lst oddA), some (.lst oddB), none]) ?_ rfl) (ret_at ?_)))
  · simp only [ev, evL, o_pow25, Option.bind_some, Option.map_some]
    rfl
  · simp only [ev, evL, Option.bind_some, Option.map_some]
    rfl
  · simp only [ev, evL, Option.bind_some, Option.map_some]
    rfl
  · have z : sizeLine = 16777216 := by decide
    have e1 : oddA.length + oddB.length ≤ sizeLine := by rw [z]; decide
    have e2 : (oddA ++ oddB).length + oddC.length ≤ sizeLine := by rw [z]; decide
    have e3 : (oddA ++ oddB ++ oddC).length + [D.tup [.non, .int 1]].length ≤ sizeLine := by rw [z]; decide
    have a1 : run P (k + 2) 170 [v, .lst (oddA ++ oddB ++ oddC ++ [.tup [.non, .int 1]])] = some (x, [v1]) := a1
    simp only [ev, evL, evA, fillA, outA, lentA, g_at, o_lst e1, o_lst e2, o_lst e3, a1, Option.bind_some, Option.map_some, List.getElem?_cons_zero, List.getElem?_cons_succ, Option.join_some, Bool.false_and, Bool.false_eq_true, if_false, List.set_cons_zero]
def nearL : List D := [f2 1 1, f2 (-1) 1, f2 1 11, f2 (-1) 11, f2 0 1, f2 1000000 1]
theorem near_in {x : D} (h : x ∈ nearL) : ∃ p : Rat, x = frD p ∧ Sz 20 p := by
  simp only [nearL, List.mem_cons, List.not_mem_nil, or_false] at h
  rcases h with rfl | rfl | rfl | rfl | rfl | rfl
  · exact ⟨⟨1, 1, by decide, by decide⟩, rfl, by decide, by decide⟩
  · exact ⟨⟨-1, 1, by decide, by decide⟩, rfl, by decide, by decide⟩
  · exact ⟨⟨1, 11, by decide, by decide⟩, rfl, by decide, by decide⟩
  · exact ⟨⟨-1, 11, by decide, by decide⟩, rfl, by decide, by decide⟩
  · exact ⟨⟨0, 1, by decide, by decide⟩, rfl, by decide, by decide⟩
  · exact ⟨⟨1000000, 1, by decide, by decide⟩, rfl, by decide, by decide⟩
theorem any_fr {q : Rat} : (frD q).any = true := by simp [frD, D.any, D.anyL]
theorem b_strI {i : Int} (h : i.natAbs.log2 < 1920) : biF .str [.int i] = some (.str (toString i)) := if_pos h
theorem sl_tup {l : List D} {lo hi : Option Int} : slF (.tup l) lo hi = some (.tup (cutD l lo hi)) := rfl
theorem cut_mem {l : List D} {lo hi : Option Int} {x : D} (h : x ∈ cutD l lo hi) : x ∈ l := List.mem_of_mem_drop (List.mem_of_mem_take h)
theorem cut_le {l : List D} {lo hi : Option Int} : (cutD l lo hi).length ≤ l.length := by
  unfold cutD
  rw [List.length_take, List.length_drop]
  omega
theorem lawNear {P : Prg} (L : Lw0 P) (h185 : P.fn 185 = some F185) (h : P.fn 197 = some F197) (k : Nat) {B : Nat} {v : D} {q : Rat} (hv : Vn B v) (hB : B < 1000000) (hq : Sz 7 q) : ∃ (x v' : D), run P (k + 4) 197 [v, frD q] = some (x, [v']) ∧ Vn (B + 2) v' ∧ x.any = true := by
  obtain ⟨r, v1, a1, a2, a3, a4⟩ := chip L.f169 (k + 2) (n := 9) hv (by decide) (by decide) (lt60 (by omega))
  have a2' : Vn (B + 2) v1 := by
    obtain ⟨a, m, c, e, h1, h2, h3⟩ := a2
    exact ⟨a, m, c, e, h1, by omega, h3⟩
  have s0 : exS (run P (k + 3)) P.gl (.asg (.n 2) (.call 169 (.io 0 (.val (.int 9) .nil)))) [some v, some (frD q), none] = some (.nx, [some v1, some (frD q), some (.int r)]) := by
    refine asg_at (d := .int r) (env' := [some v1, some (frD q), none]) ?_ rfl
    simp only [ev, evA, fillA, outA, lentA, g_at, a1, Option.bind_some, Option.map_some, List.getElem?_cons_zero, List.getElem?_cons_succ, Option.join_some, Bool.false_and, Bool.false_eq_true, if_false, List.set_cons_zero]
  have w : ∀ i : Nat, i = 2 → ev (run P (k + 3)) P.gl (.v i) [some v1, some (frD q), some (.int r)] = some (.int r, [some v1, some (frD q), some (.int r)]) := fun i hi => by subst hi; exact v_ev rfl
  have w := w 2 rfl
  have n3 : smallMul 3 q.num = true := small_of (by decide) (big_of hq.1 (by decide))
  have d3 : smallMul 3 (q.den : Int) = true := small_of (by decide) (big_of (i := (q.den : Int)) (by rw [Int.natAbs_natCast]; exact hq.2) (by decide))
  by_cases c1 : r < 6
  · have hl : (r : Int) < (nearL.length : Int) := c1
    obtain ⟨x, hx⟩ : ∃ x, nearL[r.toNat]? = some x := ⟨nearL[r.toNat]'(by omega), by simp [show r.toNat < nearL.length by omega]⟩
    have hi : ixF (.lst nearL) (.int r) = some x := (at_in a3 hl).trans hx
    obtain ⟨p, rfl, hp⟩ := near_in (List.mem_of_getElem? hx)
    have ea := lawAdd L.f171 L.f172 h185 k hq hp (by decide) (by decide)
    refine ⟨frD (q + p), v1, run_at (fl := .rt (frD (q + p))) (e := [some v1, some (frD q), some (.int r)]) h rfl ?_ rfl (.inl rfl), a2', any_fr⟩
    refine nx_at s0 (ifs_yes (e1 := [some v1, some (frD q), some (.int r)]) (cmp_tst w int_ev (by rw [c_lt, decide_eq_true c1])) (ret_at ?_))
    have hn : ev (run P (k + 3)) P.gl (.lst (.cons (.tup (.cons (.int 1) (.cons (.int 1) .nil))) (.cons (.tup (.cons (.neg (.int 1)) (.cons (.int 1) .nil))) (.cons (.tup (.cons (.int 1) (.cons (.int 11) .nil))) (.cons (.tup (.cons (.neg (.int 1)) (.cons (.int 11) .nil))) (.cons (.tup (.cons (.int 0) (.cons (.int 1) .nil))) (.cons (.tup (.cons (.op .pow (.int 10) (.int 6)) (.cons (.int 1) .nil))) .nil))))))) [some v1, some (frD q), some (.int r)] = some (.lst nearL, [some v1, some (frD q), some (.int r)]) := by
      simp only [ev, evL, o_pow6, Option.bind_some, Option.map_some]
      rfl
    have hx2 : ev (run P (k + 3)) P.gl (.ix (.lst (.cons (.tup (.cons (.int 1) (.cons (.int 1) .nil))) (.cons (.tup (.cons (.neg (.int 1)) (.cons (.int 1) .nil))) (.cons (.tup (.cons (.int 1) (.cons (.int 11) .nil))) (.cons (.tup (.cons (.neg (.int 1)) (.cons (.int 11) .nil))) (.cons (.tup (.cons (.int 0) (.cons (.int 1) .nil))) (.cons (.tup (.cons (.op .pow (.int 10) (.int 6)) (.cons (.int 1) .nil))) .nil))))))) (.v 2)) [some v1, some (frD q), some (.int r)] = some (frD p, [some v1, some (frD q), some (.int r)]) := by
      unfold ev
      rw [hn]
      simp only [Option.bind_some]
      rw [w]
      simp only [Option.bind_some, hi, Option.map_some]
    generalize E.ix _ (.v 2) = Z at hx2 ⊢
    simp only [ev, evA, fillA, outA, lentA, g_at, hx2, ea, Option.bind_some, Option.map_some, List.getElem?_cons_zero, List.getElem?_cons_succ, Option.join_some, Bool.false_and, Bool.false_eq_true, if_false]
  · by_cases c2 : r = 6
    · refine ⟨.tup [.int (3 * q.num), .int (3 * q.den)], v1, run_at (fl := .rt (.tup [.int (3 * q.num), .int (3 * q.den)])) (e := [some v1, some (frD q), some (.int r)]) h rfl ?_ rfl (.inl rfl), a2', by simp [D.any, D.anyL]⟩
      refine nx_at s0 (nx_at (ifs_no (cmp_tst w int_ev (by rw [c_lt, decide_eq_false c1]))) (ifs_yes (e1 := [some v1, some (frD q), some (.int r)]) (cmp_tst w int_ev (by rw [c_eqi, decide_eq_true c2])) (ret_at ?_)))
      unfold frD
      simp only [ev, evL, g_at, ixt0, ixt1, o_mul n3, o_mul d3, Option.bind_some, Option.map_some, List.getElem?_cons_zero, List.getElem?_cons_succ, Option.join_some]
    · by_cases c3 : r = 7
      · refine ⟨.tup [.int (0 - q.num), .int (0 - q.den)], v1, run_at (fl := .rt (.tup [.int (0 - q.num), .int (0 - q.den)])) (e := [some v1, some (frD q), some (.int r)]) h rfl ?_ rfl (.inl rfl), a2', by simp [D.any, D.anyL]⟩
        refine nx_at s0 (nx_at (ifs_no (cmp_tst w int_ev (by rw [c_lt, decide_eq_false c1]))) (nx_at (ifs_no (cmp_tst w int_ev (by rw [c_eqi, decide_eq_false c2]))) (ifs_yes (e1 := [some v1, some (frD q), some (.int r)]) (cmp_tst w int_ev (by rw [c_eqi, decide_eq_true c3])) (ret_at ?_))))
        unfold frD
        simp only [ev, evL, g_at, ixt0, ixt1, o_sub, Option.bind_some, Option.map_some, List.getElem?_cons_zero, List.getElem?_cons_succ, Option.join_some]
      · have ls : (q.den : Int).natAbs.log2 < 1920 := by
          rw [Int.natAbs_natCast]
          exact Nat.lt_trans (log_lt (by decide) hq.2) (by decide)
        let cl : List D := [.lst [.int q.num, .int q.den], .tup [.int q.num, .int q.den, .int 1], .tup (cutD [.int q.num, .int q.den] none (some 1)), .tup [.int q.num, .bl true], .tup [.int q.num, .int 0], .tup [.int q.num, .str (toString (q.den : Int))]]
        obtain ⟨x, v2, b1, b2, b3⟩ := choice L.f169 L.f170 (k + 1) (l := cl) a2 (by simp [cl]) (by show 6 < 1000000; decide) (lt60 (by omega))
        have hx : x.any = true := by
          simp only [cl, List.mem_cons, List.not_mem_nil, or_false] at b3
          rcases b3 with rfl | rfl | rfl | rfl | rfl | rfl
          · simp [D.any]
          · simp [D.any, D.anyL]
          · exact any_mk (Nat.le_trans cut_le (by show 2 ≤ 1000; decide)) fun y hy => by
              have := cut_mem hy
              simp only [List.mem_cons, List.not_mem_nil, or_false] at this
              rcases this with rfl | rfl <;> simp [D.any]
          · simp [D.any, D.anyL]
          · simp [D.any, D.anyL]
          · simp [D.any, D.anyL]
        refine ⟨x, v2, run_at (fl := .rt x) (e := [some v2, some (frD q), some (.int r)]) h rfl ?_ rfl (.inl rfl), b2, hx⟩
        refine nx_at s0 (nx_at (ifs_no (cmp_tst w int_ev (by rw [c_lt, decide_eq_false c1]))) (nx_at (ifs_no (cmp_tst w int_ev (by rw [c_eqi, decide_eq_false c2]))) (nx_at (ifs_no (cmp_tst w int_ev (by rw [c_eqi, decide_eq_false c3]))) (ret_at ?_))))
        have ot : [D.int q.num, .int q.den].length + [D.int 1].length ≤ sizeLine := by
          have z : sizeLine = 16777216 := by decide
          rw [z]
          show 2 + 1 ≤ 16777216
          decide
        have b1 : run P (k + 3) 170 [v1, .lst [.lst [.int q.num, .int q.den], .tup ([.int q.num, .int q.den] ++ [.int 1]), .tup (cutD [.int q.num, .int q.den] none (some 1)), .tup [.int q.num, .bl true], .tup [.int q.num, .int 0], .tup [.int q.num, .str (toString (q.den : Int))]]] = some (x, [v2]) := b1
        unfold frD
        simp only [ev, evL, evO, evA, fillA, outA, lentA, g_at, ixt0, ixt1, b_listt, o_tup ot, sl_tup, b_strI ls, b1, Option.bind_some, Option.map_some, List.getElem?_cons_zero, List.getElem?_cons_succ, Option.join_some, Bool.false_and, Bool.false_eq_true, if_false, List.set_cons_zero]
end LS
set_option maxHeartbeats 1000000
/-! AA: steps by one tactic. -/
namespace LS
open PySem L2
def sAt : SL → Nat → S
  | .cons s _, 0 => s
  | .cons _ r, n + 1 => sAt r n
  | .nil, _ => .pass
def sTl : SL → Nat → SL
  | s, 0 => s
  | .cons _ r, n + 1 => sTl r n
  | .nil, _ => .nil
def sIn : S → SL
  | .for_ _ _ b => b
  | .whl _ b => b
  | .ifs _ a _ => a
  | _ => .nil
def sEl : S → SL
  | .ifs _ _ b => b
  | _ => .nil
def sC : S → E
  | .ifs c _ _ => c
  | .whl c _ => c
  | .ret e => e
  | .asg _ e => e
  | _ => .non
theorem ifs_in {C : CallT} {G : Nat → Option D} {c : E} {a b : SL} {env env1 : EnD} {x : Option (Fl × EnD)} (h : tst C G c env = some (true, env1)) (h2 : exL C G a env1 = x) : exS C G (.ifs c a b) env = x := by
  simp only [exS]
  rw [h]
  simp only [Option.bind_some, if_true]
  exact h2
theorem ifs_el {C : CallT} {G : Nat → Option D} {c : E} {a b : SL} {env env1 : EnD} {x : Option (Fl × EnD)} (h : tst C G c env = some (false, env1)) (h2 : exL C G b env1 = x) : exS C G (.ifs c a b) env = x := by
  simp only [exS]
  rw [h]
  simp only [Option.bind_some, Bool.false_eq_true, if_false]
  exact h2
theorem nil_at {C : CallT} {G : Nat → Option D} {env : EnD} : exL C G .nil env = some (.nx, env) := by simp only [exL]
/-- the same, where the last slots are told later -/
theorem run_ex {P : Prg} {k f : Nat} {F : Fn} {ds os : List D} {r : D} (h : P.fn f = some F) (hl : ds.length = F.ps.length) (hf : F.fresh = false ∨ ∃ l, r = .lst l) (hb : ∃ e, exL (run P k) P.gl F.body (ds.map some ++ List.replicate (F.N.length - ds.length) none) = some (.rt r, e) ∧ outsE F.pk e = some os) : run P (k + 1) f ds = some (r, os) := by
  obtain ⟨e, h1, h2⟩ := hb
  exact run_at (fl := .rt r) h hl h1 h2 hf
theorem nxE {C : CallT} {G : Nat → Option D} {s : S} {r : SL} {env env' : EnD} {x : Fl} {Q : EnD → Prop} (h : exS C G s env = some (.nx, env')) (h2 : ∃ e, exL C G r env' = some (x, e) ∧ Q e) : ∃ e, exL C G (.cons s r) env = some (x, e) ∧ Q e := by
  obtain ⟨e, h3, h4⟩ := h2
  exact ⟨e, nx_at h h3, h4⟩
theorem retE {C : CallT} {G : Nat → Option D} {e : E} {r : SL} {env env' : EnD} {d : D} {Q : EnD → Prop} (h : ev C G e env = some (d, env')) (h2 : Q env') : ∃ e', exL C G (.cons (.ret e) r) env = some (.rt d, e') ∧ Q e' := ⟨env', ret_at h, h2⟩
theorem yesE {C : CallT} {G : Nat → Option D} {c : E} {x y r : SL} {env e1 : EnD} {d : D} {Q : EnD → Prop} (h : tst C G c env = some (true, e1)) (h2 : ∃ e, exL C G x e1 = some (.rt d, e) ∧ Q e) : ∃ e, exL C G (.cons (.ifs c x y) r) env = some (.rt d, e) ∧ Q e := by
  obtain ⟨e, h3, h4⟩ := h2
  exact ⟨e, ifs_yes h h3, h4⟩
/-- a trial of the tactic -/
theorem wholeA {P : Prg} (K : Kr P) (k : Nat) {a : Int} : run P (k + 1) 1 [.int a] = some (.bl true, []) := by
  refine run_at (fl := .rt (.bl true)) (e := [some (.int a)]) K.f1 rfl ?_ rfl (.inl rfl)
  show exL (run P k) P.gl F1.body [some (.int a)] = _
  unfold F1
  (simp only [exL, exS, tst, ev, evL, evO, evA, evI, fillA, outA, lentA, parF, asgT, asgL, T.len, g_at, Option.bind_some, Option.map_some, List.getElem?_cons_zero, List.getElem?_cons_succ, Option.join_some, Bool.false_and, Bool.false_eq_true, if_false, if_true, List.set_cons_zero, List.set_cons_succ, Bool.not_true, Bool.not_false, Bool.and_false, Bool.true_and, Bool.and_true, s_bl, t_bl, isi_int, isi_bool]; first | done | rfl)
end LS
set_option maxHeartbeats 2000000
/-! Ec: an evaluator that can be run: loops have a number of turns. -/
namespace LS
open PySem L2
def Ole {α : Type} (x y : Option α) : Prop := ∀ r, x = some r → y = some r
theorem ole_refl {α : Type} {x : Option α} : Ole x x := fun _ h => h
theorem ole_none {α : Type} {y : Option α} : Ole none y := fun _ h => by cases h
theorem ole_bind {α β : Type} {x y : Option α} {f g : α → Option β} (h : Ole x y) (hf : ∀ a, Ole (f a) (g a)) : Ole (x.bind f) (y.bind g) := fun r hr => by
  obtain ⟨a, h1, h2⟩ := Option.bind_eq_some_iff.mp hr
  exact Option.bind_eq_some_iff.mpr ⟨a, h a h1, hf a r h2⟩
theorem ole_map {α β : Type} {x y : Option α} {f : α → β} (h : Ole x y) : Ole (x.map f) (y.map f) := fun r hr => by
  obtain ⟨a, h1, h2⟩ := Option.map_eq_some_iff.mp hr
  exact Option.map_eq_some_iff.mpr ⟨a, h a h1, h2⟩
theorem ole_ite {α : Type} {c : Prop} [Decidable c] {a b a' b' : Option α} (h : Ole a b) (h' : Ole a' b') : Ole (if c then a else a') (if c then b else b') := by
  split
  · exact h
  · exact h'
section
variable {C C' : CallT} {G G' : Nat → Option D}
theorem lcL_mono {elt elt' : EnD → Option (D × EnD)} {t : T} {own : List Nat} (h : ∀ e, Ole (elt e) (elt' e)) : ∀ (ds : List D) (env : EnD), Ole (lcL elt t own ds env) (lcL elt' t own ds env)
  | [], _ => by unfold lcL; exact ole_refl
  | d :: r, env => by
    unfold lcL
    exact ole_bind ole_refl fun e1 => ole_bind (h e1) fun p => ole_map (lcL_mono h r p.2)
theorem lcifL_mono {elt elt' : EnD → Option (D × EnD)} {c c' : EnD → Option (Bool × EnD)} {t : T} {own : List Nat} (h : ∀ e, Ole (elt e) (elt' e)) (hc : ∀ e, Ole (c e) (c' e)) : ∀ (ds : List D) (env : EnD), Ole (lcifL elt c t own ds env) (lcifL elt' c' t own ds env)
  | [], _ => by unfold lcifL; exact ole_refl
  | d :: r, env => by
    unfold lcifL
    exact ole_bind ole_refl fun e1 => ole_bind (hc e1) fun q => ole_ite (ole_bind (h q.2) fun p => ole_map (lcifL_mono h hc r p.2)) (lcifL_mono h hc r q.2)
theorem forL_mono {b b' : EnD → Option (Fl × EnD)} {t : T} (h : ∀ e, Ole (b e) (b' e)) : ∀ (ds : List D) (env : EnD), Ole (forL b t ds env) (forL b' t ds env)
  | [], _ => by unfold forL; exact ole_refl
  | d :: r, env => by
    unfold forL
    refine ole_bind ole_refl fun e1 => ole_bind (h e1) fun p => ?_
    obtain ⟨f, e⟩ := p
    cases f with
    | nx => exact forL_mono h r e
    | rt x => exact ole_refl
theorem whN_mono {c c' : EnD → Option (Bool × EnD)} {b b' : EnD → Option (Fl × EnD)} (hc : ∀ e, Ole (c e) (c' e)) (h : ∀ e, Ole (b e) (b' e)) : ∀ (n : Nat) (env : EnD), Ole (whN c b n env) (whN c' b' n env)
  | 0, _ => ole_none
  | n + 1, env => by
    unfold whN
    refine ole_bind (hc env) fun p => ole_ite (ole_bind (h p.2) fun q => ?_) ole_refl
    obtain ⟨f, e⟩ := q
    cases f with
    | nx => exact whN_mono hc h n e
    | rt x => exact ole_refl
mutual
theorem ev_mono (hC : ∀ f ds, Ole (C f ds) (C' f ds)) (hG : ∀ n, Ole (G n) (G' n)) : ∀ (e : E) (env : EnD), Ole (ev C G e env) (ev C' G' e env)
  | .v i, env => by simp only [ev]; exact ole_refl
  | .int i, env => by simp only [ev]; exact ole_refl
  | .bl b, env => by simp only [ev]; exact ole_refl
  | .str x, env => by simp only [ev]; exact ole_refl
  | .non, env => by simp only [ev]; exact ole_refl
  | .dic0, env => by simp only [ev]; exact ole_refl
  | .dic1 x i, env => by simp only [ev]; exact ole_refl
  | .g n, env => by simp only [ev]; exact ole_map (hG n)
  | .tup es, env => by simp only [ev]; exact ole_map (evL_mono hC hG es env)
  | .lst es, env => by simp only [ev]; exact ole_map (evL_mono hC hG es env)
  | .op o a b, env => by simp only [ev]; exact ole_bind (ev_mono hC hG a env) fun p => ole_bind (ev_mono hC hG b p.2) fun q => ole_refl
  | .neg a, env => by simp only [ev]; exact ole_bind (ev_mono hC hG a env) fun p => ole_refl
  | .not a, env => by simp only [ev]; exact ole_bind (ev_mono hC hG a env) fun p => ole_refl
  | .and a b, env => by simp only [ev]; exact ole_bind (ev_mono hC hG a env) fun p => ole_bind ole_refl fun c => ole_ite (ev_mono hC hG b p.2) ole_refl
  | .or a b, env => by simp only [ev]; exact ole_bind (ev_mono hC hG a env) fun p => ole_bind ole_refl fun c => ole_ite ole_refl (ev_mono hC hG b p.2)
  | .cmp o a b, env => by simp only [ev]; exact ole_bind (ev_mono hC hG a env) fun p => ole_bind (ev_mono hC hG b p.2) fun q => ole_refl
  | .chn o1 o2 a b c, env => by simp only [ev]; exact ole_bind (ev_mono hC hG a env) fun p => ole_bind (ev_mono hC hG b p.2) fun q => ole_bind ole_refl fun d => ole_bind ole_refl fun k => ole_ite (ole_bind (ev_mono hC hG c q.2) fun r => ole_refl) ole_refl
  | .isN a, env => by simp only [ev]; exact ole_map (ev_mono hC hG a env)
  | .isNN a, env => by simp only [ev]; exact ole_map (ev_mono hC hG a env)
  | .ife c a b, env => by simp only [ev]; exact ole_bind (tst_mono hC hG c env) fun p => ole_ite (ev_mono hC hG a p.2) (ev_mono hC hG b p.2)
  | .ix a i, env => by simp only [ev]; exact ole_bind (ev_mono hC hG a env) fun p => ole_bind (ev_mono hC hG i p.2) fun q => ole_refl
  | .sl a lo hi, env => by simp only [ev]; exact ole_bind (ev_mono hC hG a env) fun p => ole_bind (evO_mono hC hG lo p.2) fun q => ole_bind (evO_mono hC hG hi q.2) fun r => ole_refl
  | .rev a, env => by simp only [ev]; exact ole_bind (ev_mono hC hG a env) fun p => ole_refl
  | .call f as, env => by simp only [ev]; exact ole_bind (evA_mono hC hG as env) fun p => ole_bind ole_refl fun ds => ole_bind (hC f ds) fun r => ole_refl
  | .callT f g as, env => by simp only [ev]; exact ole_bind (evA_mono hC hG as env) fun p => ole_bind ole_refl fun ds => ole_bind (hC g ds) fun r => ole_bind ole_refl fun l => ole_map (hC f _)
  | .callk f as es ks, env => by simp only [ev]; exact ole_bind (evL_mono hC hG as env) fun p => ole_bind (evL_mono hC hG es p.2) fun q => ole_bind ole_refl fun ds => ole_map (hC f ds)
  | .isB ng b a, env => by simp only [ev]; exact ole_bind (ev_mono hC hG a env) fun p => ole_refl
  | .bi b es, env => by simp only [ev]; exact ole_bind (evL_mono hC hG es env) fun p => ole_refl
  | .isi ty a, env => by simp only [ev]; exact ole_bind (ev_mono hC hG a env) fun p => ole_refl
  | .lc elt t it own, env => by simp only [ev]; exact ole_bind (evI_mono hC hG it env) fun p => ole_bind ole_refl fun l => ole_map (lcL_mono (fun e => ev_mono hC hG elt e) l p.2)
  | .lcif elt t it c own, env => by simp only [ev]; exact ole_bind (evI_mono hC hG it env) fun p => ole_bind ole_refl fun l => ole_map (lcifL_mono (fun e => ev_mono hC hG elt e) (fun e => tst_mono hC hG c e) l p.2)
theorem tst_mono (hC : ∀ f ds, Ole (C f ds) (C' f ds)) (hG : ∀ n, Ole (G n) (G' n)) : ∀ (e : E) (env : EnD), Ole (tst C G e env) (tst C' G' e env)
  | .not a, env => by simp only [tst]; exact ole_map (tst_mono hC hG a env)
  | .and a b, env => by simp only [tst]; exact ole_bind (tst_mono hC hG a env) fun p => ole_ite (tst_mono hC hG b p.2) ole_refl
  | .or a b, env => by simp only [tst]; exact ole_bind (tst_mono hC hG a env) fun p => ole_ite ole_refl (tst_mono hC hG b p.2)
  | .cmp o a b, env => by simp only [tst]; exact ole_bind (ev_mono hC hG a env) fun p => ole_bind (ev_mono hC hG b p.2) fun q => ole_refl
  | .chn o1 o2 a b c, env => by simp only [tst]; exact ole_bind (ev_mono hC hG a env) fun p => ole_bind (ev_mono hC hG b p.2) fun q => ole_bind ole_refl fun d => ole_bind ole_refl fun k => ole_ite (ole_bind (ev_mono hC hG c q.2) fun r => ole_refl) ole_refl
  | .isN a, env => by simp only [tst]; exact ole_map (ev_mono hC hG a env)
  | .isNN a, env => by simp only [tst]; exact ole_map (ev_mono hC hG a env)
  | .bl b, env => by simp only [tst]; exact ole_refl
  | .v i, env => by simp only [tst]; exact ole_refl
  | .call f as, env => by simp only [tst]; exact ole_bind (evA_mono hC hG as env) fun p => ole_bind ole_refl fun ds => ole_bind (hC f ds) fun r => ole_refl
  | .callT f g as, env => by simp only [tst]; exact ole_bind (evA_mono hC hG as env) fun p => ole_bind ole_refl fun ds => ole_bind (hC g ds) fun r => ole_bind ole_refl fun l => ole_bind (hC f _) fun q => ole_refl
  | .callk f as es ks, env => by simp only [tst]; exact ole_bind (evL_mono hC hG as env) fun p => ole_bind (evL_mono hC hG es p.2) fun q => ole_bind ole_refl fun ds => ole_bind (hC f ds) fun r => ole_refl
  | .isB ng b a, env => by simp only [tst]; exact ole_bind (ev_mono hC hG a env) fun p => ole_refl
  | .bi b es, env => by simp only [tst]; exact ole_bind (evL_mono hC hG es env) fun p => ole_refl
  | .isi ty a, env => by simp only [tst]; exact ole_bind (ev_mono hC hG a env) fun p => ole_refl
  | .ix a i, env => by simp only [tst]; exact ole_bind (ev_mono hC hG a env) fun p => ole_bind (ev_mono hC hG i p.2) fun q => ole_refl
  | .int _, _ => by simp only [tst]; exact ole_refl
  | .str _, _ => by simp only [tst]; exact ole_refl
  | .non, _ => by simp only [tst]; exact ole_refl
  | .g _, _ => by simp only [tst]; exact ole_refl
  | .dic0, _ => by simp only [tst]; exact ole_refl
  | .dic1 _ _, _ => by simp only [tst]; exact ole_refl
  | .tup _, _ => by simp only [tst]; exact ole_refl
  | .lst _, _ => by simp only [tst]; exact ole_refl
  | .op _ _ _, _ => by simp only [tst]; exact ole_refl
  | .neg _, _ => by simp only [tst]; exact ole_refl
  | .ife _ _ _, _ => by simp only [tst]; exact ole_refl
  | .sl _ _ _, _ => by simp only [tst]; exact ole_refl
  | .rev _, _ => by simp only [tst]; exact ole_refl
  | .lc _ _ _ _, _ => by simp only [tst]; exact ole_refl
  | .lcif _ _ _ _ _, _ => by simp only [tst]; exact ole_refl
theorem evL_mono (hC : ∀ f ds, Ole (C f ds) (C' f ds)) (hG : ∀ n, Ole (G n) (G' n)) : ∀ (e : EL) (env : EnD), Ole (evL C G e env) (evL C' G' e env)
  | .nil, env => by simp only [evL]; exact ole_refl
  | .cons e r, env => by simp only [evL]; exact ole_bind (ev_mono hC hG e env) fun p => ole_map (evL_mono hC hG r p.2)
theorem evO_mono (hC : ∀ f ds, Ole (C f ds) (C' f ds)) (hG : ∀ n, Ole (G n) (G' n)) : ∀ (e : EO) (env : EnD), Ole (evO C G e env) (evO C' G' e env)
  | .no, env => by simp only [evO]; exact ole_refl
  | .so e, env => by simp only [evO]; exact ole_bind (ev_mono hC hG e env) fun p => ole_refl
theorem evA_mono (hC : ∀ f ds, Ole (C f ds) (C' f ds)) (hG : ∀ n, Ole (G n) (G' n)) : ∀ (e : AL) (env : EnD), Ole (evA C G e env) (evA C' G' e env)
  | .nil, env => by simp only [evA]; exact ole_refl
  | .val e r, env => by simp only [evA]; exact ole_bind (ev_mono hC hG e env) fun p => ole_map (evA_mono hC hG r p.2)
  | .bor i r, env => by simp only [evA]; exact ole_bind ole_refl fun _ => ole_map (evA_mono hC hG r env)
  | .io i r, env => by simp only [evA]; exact ole_bind ole_refl fun _ => ole_map (evA_mono hC hG r env)
theorem evI_mono (hC : ∀ f ds, Ole (C f ds) (C' f ds)) (hG : ∀ n, Ole (G n) (G' n)) : ∀ (e : I) (env : EnD), Ole (evI C G e env) (evI C' G' e env)
  | .seq e, env => by simp only [evI]; exact ole_bind (ev_mono hC hG e env) fun p => ole_refl
  | .rng1 e, env => by simp only [evI]; exact ole_bind (ev_mono hC hG e env) fun p => ole_refl
  | .rng2 a b, env => by simp only [evI]; exact ole_bind (ev_mono hC hG a env) fun p => ole_bind (ev_mono hC hG b p.2) fun q => ole_refl
  | .rng3 a b c, env => by simp only [evI]; exact ole_bind (ev_mono hC hG a env) fun p => ole_bind (ev_mono hC hG b p.2) fun q => ole_bind (ev_mono hC hG c q.2) fun r => ole_refl
  | .enz a b, env => by simp only [evI]; exact ole_bind (ev_mono hC hG a env) fun p => ole_bind (ev_mono hC hG b p.2) fun q => ole_refl
  | .enum e, env => by simp only [evI]; exact ole_bind (ev_mono hC hG e env) fun p => ole_refl
  | .zip a b, env => by simp only [evI]; exact ole_bind (ev_mono hC hG a env) fun p => ole_bind (ev_mono hC hG b p.2) fun q => ole_refl
  | .rev e, env => by simp only [evI]; exact ole_bind (ev_mono hC hG e env) fun p => ole_refl
  | .revr e, env => by simp only [evI]; exact ole_bind (ev_mono hC hG e env) fun p => ole_refl
end
end
section
variable (M : Nat) (C : CallT) (G : Nat → Option D)
mutual
def cS : S → EnD → Option (Fl × EnD)
  | .asg t e, env => (ev C G e env).bind fun p => (asgT t p.1 p.2).map fun e => (.nx, e)
  | .own i e, env => (ev C G e env).bind fun p => match p.1 with
    | .lst l => some (.nx, p.2.set i (some (.lst l)))
    | _ => none
  | .par is es, env => (evL C G es env).bind fun p => (parF is p.1 p.2).map fun e => (.nx, e)
  | .sub io i x e, env => (ev C G e env).bind fun p => (getE p.2 i).bind fun _ => (ev C G x p.2).bind fun q => match getE q.2 i, q.1 with
    | some (.lst l), .int k => if io && !isIntD p.1 then none else (ixN l.length k).map fun j => (.nx, q.2.set i (some (.lst (l.set j p.1))))
    | _, _ => none
  | .subn i x j e, env => (ev C G e env).bind fun p => match p.1, getE p.2 i with
    | .tup [.int a, d], some (.lst l) => (ixN l.length x).map fun n => (.nx, (p.2.set i (some (.lst (l.set n (.int a))))).set j (some d))
    | _, _ => none
  | .app i e, env => (getE env i).bind fun _ => (ev C G e env).bind fun p => match getE p.2 i with
    | some (.lst l) => if l.length < 1000000 then some (.nx, p.2.set i (some (.lst (l ++ [p.1])))) else none
    | _ => none
  | .pop i, env => match getE env i with
    | some (.lst l) => if l = [] then none else some (.nx, env.set i (some (.lst l.dropLast)))
    | _ => none
  | .popT t i, env => match getE env i with
    | some (.lst l) => match l.getLast? with
      | some d => (asgT t d (env.set i (some (.lst l.dropLast)))).map fun e => (.nx, e)
      | none => none
    | _ => none
  | .ex e, env => (ev C G e env).map fun p => (.nx, p.2)
  | .ifs c a b, env => (tst C G c env).bind fun p => if p.1 then cL a p.2 else cL b p.2
  | .whl c b, env => whN (fun e => tst C G c e) (fun e => cL b e) M env
  | .for_ t it b, env => (evI C G it env).bind fun p => forL (fun e => cL b e) t p.1 p.2
  | .ret e, env => (ev C G e env).map fun p => (.rt p.1, p.2)
  | .retF e, env => (ev C G e env).bind fun p => match p.1 with
    | .lst l => some (.rt (.lst l), p.2)
    | _ => none
  | .retO i, env => (getE env i).map fun d => (.rt d, env)
  | .retN, env => some (.rt .non, env)
  | .pass, env => some (.nx, env)
  | .rais, _ => none
def cL : SL → EnD → Option (Fl × EnD)
  | .nil, env => some (.nx, env)
  | .cons s r, env => (cS s env).bind fun p => match p.1 with
    | .nx => cL r p.2
    | .rt d => some (.rt d, p.2)
end
end
/-- calls, k one in another, loops of at most M turns -/
def cRun (P : Prg) (M : Nat) : Nat → CallT
  | 0, _, _ => none
  | k + 1, f, ds => (P.fn f).bind fun F => if ds.length = F.ps.length then
      (cL M (cRun P M k) P.gl F.body (ds.map some ++ List.replicate (F.N.length - ds.length) none)).bind fun p =>
        (outsE F.pk p.2).bind fun os => backF F.fresh (flD p.1) os
    else none
section
variable {M : Nat} {C C' : CallT} {G G' : Nat → Option D}
mutual
theorem cS_exS (hC : ∀ f ds, Ole (C f ds) (C' f ds)) (hG : ∀ n, Ole (G n) (G' n)) : ∀ (s : S) (env : EnD), Ole (cS M C G s env) (exS C' G' s env)
  | .asg t e, env => by simp only [cS, exS]; exact ole_bind (ev_mono hC hG e env) fun p => ole_refl
  | .own i e, env => by simp only [cS, exS]; exact ole_bind (ev_mono hC hG e env) fun p => ole_refl
  | .par is es, env => by simp only [cS, exS]; exact ole_bind (evL_mono hC hG es env) fun p => ole_refl
  | .sub io i x e, env => by simp only [cS, exS]; exact ole_bind (ev_mono hC hG e env) fun p => ole_bind ole_refl fun _ => ole_bind (ev_mono hC hG x p.2) fun q => ole_refl
  | .subn i x j e, env => by simp only [cS, exS]; exact ole_bind (ev_mono hC hG e env) fun p => ole_refl
  | .app i e, env => by simp only [cS, exS]; exact ole_bind ole_refl fun _ => ole_bind (ev_mono hC hG e env) fun p => ole_refl
  | .pop i, env => by simp only [cS, exS]; exact ole_refl
  | .popT t i, env => by simp only [cS, exS]; exact ole_refl
  | .ex e, env => by simp only [cS, exS]; exact ole_map (ev_mono hC hG e env)
  | .ifs c a b, env => by simp only [cS, exS]; exact ole_bind (tst_mono hC hG c env) fun p => ole_ite (cL_exL hC hG a p.2) (cL_exL hC hG b p.2)
  | .whl c b, env => by
    simp only [cS, exS]
    intro r h
    exact whL_of (n := M) (whN_mono (fun e => tst_mono hC hG c e) (fun e => cL_exL hC hG b e) M env r h)
  | .for_ t it b, env => by simp only [cS, exS]; exact ole_bind (evI_mono hC hG it env) fun p => forL_mono (fun e => cL_exL hC hG b e) p.1 p.2
  | .ret e, env => by simp only [cS, exS]; exact ole_map (ev_mono hC hG e env)
  | .retF e, env => by simp only [cS, exS]; exact ole_bind (ev_mono hC hG e env) fun p => ole_refl
  | .retO i, env => by simp only [cS, exS]; exact ole_refl
  | .retN, env => by simp only [cS, exS]; exact ole_refl
  | .pass, env => by simp only [cS, exS]; exact ole_refl
  | .rais, env => by simp only [cS, exS]; exact ole_refl
theorem cL_exL (hC : ∀ f ds, Ole (C f ds) (C' f ds)) (hG : ∀ n, Ole (G n) (G' n)) : ∀ (s : SL) (env : EnD), Ole (cL M C G s env) (exL C' G' s env)
  | .nil, env => by simp only [cL, exL]; exact ole_refl
  | .cons s r, env => by
    simp only [cL, exL]
    refine ole_bind (cS_exS hC hG s env) fun p => ?_
    obtain ⟨f, e⟩ := p
    cases f with
    | nx => exact cL_exL hC hG r e
    | rt x => exact ole_refl
end
end
/-- a program within another one -/
structure Sub (P Q : Prg) : Prop where
  fn : ∀ f, Ole (P.fn f) (Q.fn f)
  gl : ∀ n, Ole (P.gl n) (Q.gl n)
theorem cRun_run {P Q : Prg} (W : Sub P Q) {M : Nat} : ∀ (k : Nat) (f : Nat) (ds : List D), Ole (cRun P M k f ds) (run Q k f ds)
  | 0, _, _ => ole_none
  | k + 1, f, ds => by
    unfold cRun run
    refine ole_bind (W.fn f) fun F => ole_ite (ole_bind (cL_exL (cRun_run W k) W.gl F.body _) fun p => ole_refl) ole_refl
theorem run_of {P Q : Prg} (W : Sub P Q) {M k f : Nat} {ds : List D} {r : D × List D} (h : cRun P M k f ds = some r) : run Q k f ds = some r := cRun_run W k f ds r h
theorem exL_of {P Q : Prg} (W : Sub P Q) {M k : Nat} {s : SL} {env : EnD} {r : Fl × EnD} (h : cL M (cRun P M k) P.gl s env = some r) : exL (run Q k) Q.gl s env = some r := cL_exL (cRun_run W k) W.gl s env r h
theorem exS_of {P Q : Prg} (W : Sub P Q) {M k : Nat} {s : S} {env : EnD} {r : Fl × EnD} (h : cS M (cRun P M k) P.gl s env = some r) : exS (run Q k) Q.gl s env = some r := cS_exS (cRun_run W k) W.gl s env r h
theorem ev_of {P Q : Prg} (W : Sub P Q) {M k : Nat} {e : E} {env : EnD} {r : D × EnD} (h : ev (cRun P M k) P.gl e env = some r) : ev (run Q k) Q.gl e env = some r := ev_mono (cRun_run W k) W.gl e env r h
/-- a small program by rows -/
def look {α : Type} : List (Nat × α) → Nat → Option α
  | [], _ => none
  | (i, x) :: r, n => if i = n then some x else look r n
def prgL (fs : List (Nat × Fn)) (gs : List (Nat × D)) : Prg := ⟨look fs, look gs⟩
theorem look_ole {α : Type} {f : Nat → Option α} : ∀ {l : List (Nat × α)}, (∀ p ∈ l, f p.1 = some p.2) → ∀ n, Ole (look l n) (f n)
  | [], _, _ => ole_none
  | (i, x) :: r, h, n => by
    unfold look
    split
    · rename_i e
      intro y hy
      cases hy
      have := h (i, x) (List.mem_cons_self ..)
      rw [← e]
      exact this
    · exact look_ole (fun p hp => h p (List.mem_cons_of_mem _ hp)) n
theorem sub_of {fs : List (Nat × Fn)} {gs : List (Nat × D)} {Q : Prg} (h1 : ∀ p ∈ fs, Q.fn p.1 = some p.2) (h2 : ∀ p ∈ gs, Q.gl p.1 = some p.2) : Sub (prgL fs gs) Q := ⟨look_ole h1, look_ole h2⟩
end LS
set_option maxHeartbeats 0
/-! K26a: every number of steps worked out. (Printed by gen26.py.) -/
namespace LS
open PySem L2
def sTk : SL → Nat → SL
  | .cons s r, n + 1 => .cons s (sTk r n)
  | _, _ => .nil
def fs26 : List (Nat × Fn) := [(1, F1), (2, F2), (3, F3), (4, F4), (5, F5), (8, F8), (9, F9), (10, F10), (11, F11), (12, F12), (13, F13), (14, F14), (25, F25), (26, F26), (27, F27), (28, F28), (30, F30), (35, F35), (61, F61), (66, F66), (67, F67), (75, F75), (76, F76), (77, F77), (119, F119), (150, F150), (169, F169), (171, F171), (172, F172), (185, F185), (186, F186), (187, F187), (282, F282), (300, F300), (301, F301), (302, F302), (303, F303), (304, F304), (312, F312), (313, F313), (318, F318), (319, F319), (320, F320), (321, F321), (322, F322), (323, F323), (324, F324)]
def gs26 : List (Nat × D) := [(0, (.tup [(.int 0), (.int 1)])), (1, (.tup [(.int 1), (.int 1)])), (5, (.int 8))]
def P26 : Prg := prgL fs26 gs26
theorem sub26 {Q : Prg} (h1 : Q.fn 1 = some F1) (h2 : Q.fn 2 = some F2) (h3 : Q.fn 3 = some F3) (h4 : Q.fn 4 = some F4) (h5 : Q.fn 5 = some F5) (h8 : Q.fn 8 = some F8) (h9 : Q.fn 9 = some F9) (h10 : Q.fn 10 = some F10) (h11 : Q.fn 11 = some F11) (h12 : Q.fn 12 = some F12) (h13 : Q.fn 13 = some F13) (h14 : Q.fn 14 = some F14) (h25 : Q.fn 25 = some F25) (h26 : Q.fn 26 = some F26) (h27 : Q.fn 27 = some F27) (h28 : Q.fn 28 = some F28) (h30 : Q.fn 30 = some F30) (h35 : Q.fn 35 = some F35) (h61 : Q.fn 61 = some F61) (h66 : Q.fn 66 = some F66) (h67 : Q.fn 67 = some F67) (h75 : Q.fn 75 = some F75) (h76 : Q.fn 76 = some F76) (h77 : Q.fn 77 = some F77) (h119 : Q.fn 119 = some F119) (h150 : Q.fn 150 = some F150) (h169 : Q.fn 169 = some F169) (h171 : Q.fn 171 = some F171) (h172 : Q.fn 172 = some F172) (h185 : Q.fn 185 = some F185) (h186 : Q.fn 186 = some F186) (h187 : Q.fn 187 = some F187) (h282 : Q.fn 282 = some F282) (h300 : Q.fn 300 = some F300) (h301 : Q.fn 301 = some F301) (h302 : Q.fn 302 = some F302) (h303 : Q.fn 303 = some F303) (h304 : Q.fn 304 = some F304) (h312 : Q.fn 312 = some F312) (h313 : Q.fn 313 = some F313) (h318 : Q.fn 318 = some F318) (h319 : Q.fn 319 = some F319) (h320 : Q.fn 320 = some F320) (h321 : Q.fn 321 = some F321) (h322 : Q.fn 322 = some F322) (h323 : Q.fn 323 = some F323) (h324 : Q.fn 324 = some F324) (g0 : Q.gl 0 = some (.tup [(.int 0), (.int 1)])) (g1 : Q.gl 1 = some (.tup [(.int 1), (.int 1)])) (g5 : Q.gl 5 = some (.int 8)) : Sub P26 Q := sub_of (mem_all h1 (mem_all h2 (mem_all h3 (mem_all h4 (mem_all h5 (mem_all h8 (mem_all h9 (mem_all h10 (mem_all h11 (mem_all h12 (mem_all h13 (mem_all h14 (mem_all h25 (mem_all h26 (mem_all h27 (mem_all h28 (mem_all h30 (mem_all h35 (mem_all h61 (mem_all h66 (mem_all h67 (mem_all h75 (mem_all h76 (mem_all h77 (mem_all h119 (mem_all h150 (mem_all h169 (mem_all h171 (mem_all h172 (mem_all h185 (mem_all h186 (mem_all h187 (mem_all h282 (mem_all h300 (mem_all h301 (mem_all h302 (mem_all h303 (mem_all h304 (mem_all h312 (mem_all h313 (mem_all h318 (mem_all h319 (mem_all h320 (mem_all h321 (mem_all h322 (mem_all h323 (mem_all h324 (mem_none)))))))))))))))))))))))))))))))))))))))))))))))) (mem_all g0 (mem_all g1 (mem_all g5 (mem_none))))
/-- what is known of one number of steps -/
structure R26 (u : Nat) : Prop where
  ex : ∃ (F T1 T2 T3 Nu O N E1 E2 E3 : D) (l1 l2 : D),
    (∀ v : D, cL 60 (cRun P26 60 11) P26.gl (sTk (sTl F325.body 1) 5) [some v, some (.int (u : Int)), none, none, none, none, none, none, none, none, none] = some (.nx, [some v, some (.int (u : Int)), some F, some (.lst [T1, T2, T3]), some Nu, none, none, some O, some N, none, none])) ∧
    cRun P26 60 11 319 [.int (u : Int)] = some (T1, []) ∧ cRun P26 60 11 320 [.int (u : Int)] = some (T2, []) ∧ cRun P26 60 11 321 [.int (u : Int)] = some (T3, []) ∧
    cRun P26 60 11 150 [T1] = some (.int (u : Int), []) ∧ cRun P26 60 11 150 [T2] = some (.int ((u : Int) + 1), []) ∧ cRun P26 60 11 150 [T3] = some (.int (u : Int), []) ∧
    cRun P26 60 11 282 [T1] = some (E1, []) ∧ cRun P26 60 11 282 [T2] = some (E2, []) ∧ cRun P26 60 11 282 [T3] = some (E3, []) ∧
    (∀ v : D, cS 60 (cRun P26 60 11) P26.gl (sAt F325.body 9) [some v, some (.int (u : Int)), some F, some (.lst [T1, T2, T3]), some Nu, some (.lst [T1, T2, T3]), none, some O, some N, none, none] = some (.nx, [some v, some (.int (u : Int)), some F, some (.lst [T1, T2, T3]), some Nu, some (.lst [T1, T2, T3]), some (.lst [E1, E2, E3]), some O, some N, none, none])) ∧
    (D.lst [T1, T2, T3]).fine = true ∧ (D.lst [T1, T2, T3]).dep ≤ 60 ∧ (D.lst [T1, T2, T3]).blk ≤ 8000 ∧ (D.lst [E1, E2, E3]).fine = true ∧ (D.lst [E1, E2, E3]).dep ≤ 60 ∧ (D.lst [E1, E2, E3]).blk ≤ 8000
def t26_1_1 : D := .tup [.tup [f2 (-1) 1, f2 (1) 1], .tup [f2 (1) 1, f2 (0) 1]]
def t26_1_2 : D := .tup [.tup [f2 (-1) 1, f2 (1) 1], .tup [f2 (1) 2, f2 (1) 2]]
def t26_1_3 : D := .tup [.tup [f2 (-1) 1, f2 (1) 1], .tup [f2 (0) 1, f2 (1) 1]]
theorem sA_1 (v : D) : cL 60 (cRun P26 60 11) P26.gl (sTk (sTl F325.body 1) 5) [some v, some (.int 1), none, none, none, none, none, none, none, none, none] = some (.nx, [some v, some (.int 1), some (.tup [f2 (-1) 1, f2 (1) 1]), some (.lst [t26_1_1, t26_1_2, t26_1_3]), some (.lst [f2 (0) 1, f2 (1) 1]), none, none, some (.lst [f2 (1) 1, f2 (1) 2]), some (.lst [f2 (1) 1, f2 (-1) 2, f2 (-1) 12]), none, none]) := by kernel_rfl
theorem sT_1_1 : cRun P26 60 11 319 [.int 1] = some (t26_1_1, []) := by kernel_rfl
theorem sT_1_2 : cRun P26 60 11 320 [.int 1] = some (t26_1_2, []) := by kernel_rfl
theorem sT_1_3 : cRun P26 60 11 321 [.int 1] = some (t26_1_3, []) := by kernel_rfl
theorem sO_1_1 : cRun P26 60 11 150 [t26_1_1] = some (.int 1, []) := by kernel_rfl
theorem sO_1_2 : cRun P26 60 11 150 [t26_1_2] = some (.int 2, []) := by kernel_rfl
theorem sO_1_3 : cRun P26 60 11 150 [t26_1_3] = some (.int 1, []) := by kernel_rfl
theorem sE_1_1 : cRun P26 60 11 282 [t26_1_1] = some (f2 (1) 2, []) := by kernel_rfl
theorem sE_1_2 : cRun P26 60 11 282 [t26_1_2] = some (f2 (-1) 12, []) := by kernel_rfl
theorem sE_1_3 : cRun P26 60 11 282 [t26_1_3] = some (f2 (-1) 2, []) := by kernel_rfl
theorem sL_1 (v : D) : cS 60 (cRun P26 60 11) P26.gl (sAt F325.body 9) [some v, some (.int 1), some (.tup [f2 (-1) 1, f2 (1) 1]), some (.lst [t26_1_1, t26_1_2, t26_1_3]), some (.lst [f2 (0) 1, f2 (1) 1]), some (.lst [t26_1_1, t26_1_2, t26_1_3]), none, some (.lst [f2 (1) 1, f2 (1) 2]), some (.lst [f2 (1) 1, f2 (-1) 2, f2 (-1) 12]), none, none] = some (.nx, [some v, some (.int 1), some (.tup [f2 (-1) 1, f2 (1) 1]), some (.lst [t26_1_1, t26_1_2, t26_1_3]), some (.lst [f2 (0) 1, f2 (1) 1]), some (.lst [t26_1_1, t26_1_2, t26_1_3]), some (.lst [f2 (1) 2, f2 (-1) 12, f2 (-1) 2]), some (.lst [f2 (1) 1, f2 (1) 2]), some (.lst [f2 (1) 1, f2 (-1) 2, f2 (-1) 12]), none, none]) := by kernel_rfl
theorem r26_1 : R26 1 := ⟨⟨_, t26_1_1, t26_1_2, t26_1_3, _, _, _, _, _, _, .non, .non, sA_1, sT_1_1, sT_1_2, sT_1_3, sO_1_1, sO_1_2, sO_1_3, sE_1_1, sE_1_2, sE_1_3, sL_1, by decide +kernel, by decide +kernel, by decide +kernel, by decide +kernel, by decide +kernel, by decide +kernel⟩⟩
def t26_2_1 : D := .tup [.tup [f2 (0) 1, f2 (-1) 1, f2 (1) 1], .tup [f2 (-1) 2, f2 (3) 2, f2 (0) 1]]
def t26_2_2 : D := .tup [.tup [f2 (0) 1, f2 (-1) 1, f2 (1) 1], .tup [f2 (-1) 12, f2 (2) 3, f2 (5) 12]]
def t26_2_3 : D := .tup [.tup [f2 (1) 2, f2 (-2) 1, f2 (3) 2], .tup [f2 (0) 1, f2 (0) 1, f2 (1) 1]]
theorem sA_2 (v : D) : cL 60 (cRun P26 60 11) P26.gl (sTk (sTl F325.body 1) 5) [some v, some (.int 2), none, none, none, none, none, none, none, none, none] = some (.nx, [some v, some (.int 2), some (.tup [f2 (0) 1, f2 (-1) 1, f2 (1) 1]), some (.lst [t26_2_1, t26_2_2, t26_2_3]), some (.lst [f2 (0) 1, f2 (1) 1, f2 (1) 2]), none, none, some (.lst [f2 (1) 1, f2 (1) 2, f2 (5) 12]), some (.lst [f2 (1) 1, f2 (-1) 2, f2 (-1) 12, f2 (-1) 24]), none, none]) := by kernel_rfl
theorem sT_2_1 : cRun P26 60 11 319 [.int 2] = some (t26_2_1, []) := by kernel_rfl
theorem sT_2_2 : cRun P26 60 11 320 [.int 2] = some (t26_2_2, []) := by kernel_rfl
theorem sT_2_3 : cRun P26 60 11 321 [.int 2] = some (t26_2_3, []) := by kernel_rfl
theorem sO_2_1 : cRun P26 60 11 150 [t26_2_1] = some (.int 2, []) := by kernel_rfl
theorem sO_2_2 : cRun P26 60 11 150 [t26_2_2] = some (.int 3, []) := by kernel_rfl
theorem sO_2_3 : cRun P26 60 11 150 [t26_2_3] = some (.int 2, []) := by kernel_rfl
theorem sE_2_1 : cRun P26 60 11 282 [t26_2_1] = some (f2 (5) 12, []) := by kernel_rfl
theorem sE_2_2 : cRun P26 60 11 282 [t26_2_2] = some (f2 (-1) 24, []) := by kernel_rfl
theorem sE_2_3 : cRun P26 60 11 282 [t26_2_3] = some (f2 (-1) 3, []) := by kernel_rfl
theorem sL_2 (v : D) : cS 60 (cRun P26 60 11) P26.gl (sAt F325.body 9) [some v, some (.int 2), some (.tup [f2 (0) 1, f2 (-1) 1, f2 (1) 1]), some (.lst [t26_2_1, t26_2_2, t26_2_3]), some (.lst [f2 (0) 1, f2 (1) 1, f2 (1) 2]), some (.lst [t26_2_1, t26_2_2, t26_2_3]), none, some (.lst [f2 (1) 1, f2 (1) 2, f2 (5) 12]), some (.lst [f2 (1) 1, f2 (-1) 2, f2 (-1) 12, f2 (-1) 24]), none, none] = some (.nx, [some v, some (.int 2), some (.tup [f2 (0) 1, f2 (-1) 1, f2 (1) 1]), some (.lst [t26_2_1, t26_2_2, t26_2_3]), some (.lst [f2 (0) 1, f2 (1) 1, f2 (1) 2]), some (.lst [t26_2_1, t26_2_2, t26_2_3]), some (.lst [f2 (5) 12, f2 (-1) 24, f2 (-1) 3]), some (.lst [f2 (1) 1, f2 (1) 2, f2 (5) 12]), some (.lst [f2 (1) 1, f2 (-1) 2, f2 (-1) 12, f2 (-1) 24]), none, none]) := by kernel_rfl
theorem r26_2 : R26 2 := ⟨⟨_, t26_2_1, t26_2_2, t26_2_3, _, _, _, _, _, _, .non, .non, sA_2, sT_2_1, sT_2_2, sT_2_3, sO_2_1, sO_2_2, sO_2_3, sE_2_1, sE_2_2, sE_2_3, sL_2, by decide +kernel, by decide +kernel, by decide +kernel, by decide +kernel, by decide +kernel, by decide +kernel⟩⟩
def t26_3_1 : D := .tup [.tup [f2 (0) 1, f2 (0) 1, f2 (-1) 1, f2 (1) 1], .tup [f2 (5) 12, f2 (-4) 3, f2 (23) 12, f2 (0) 1]]
def t26_3_2 : D := .tup [.tup [f2 (0) 1, f2 (0) 1, f2 (-1) 1, f2 (1) 1], .tup [f2 (1) 24, f2 (-5) 24, f2 (19) 24, f2 (3) 8]]
def t26_3_3 : D := .tup [.tup [f2 (-1) 3, f2 (3) 2, f2 (-3) 1, f2 (11) 6], .tup [f2 (0) 1, f2 (0) 1, f2 (0) 1, f2 (1) 1]]
theorem sA_3 (v : D) : cL 60 (cRun P26 60 11) P26.gl (sTk (sTl F325.body 1) 5) [some v, some (.int 3), none, none, none, none, none, none, none, none, none] = some (.nx, [some v, some (.int 3), some (.tup [f2 (0) 1, f2 (0) 1, f2 (-1) 1, f2 (1) 1]), some (.lst [t26_3_1, t26_3_2, t26_3_3]), some (.lst [f2 (0) 1, f2 (1) 1, f2 (1) 2, f2 (1) 3]), none, none, some (.lst [f2 (1) 1, f2 (1) 2, f2 (5) 12, f2 (3) 8]), some (.lst [f2 (1) 1, f2 (-1) 2, f2 (-1) 12, f2 (-1) 24, f2 (-19) 720]), none, none]) := by kernel_rfl
theorem sT_3_1 : cRun P26 60 11 319 [.int 3] = some (t26_3_1, []) := by kernel_rfl
theorem sT_3_2 : cRun P26 60 11 320 [.int 3] = some (t26_3_2, []) := by kernel_rfl
theorem sT_3_3 : cRun P26 60 11 321 [.int 3] = some (t26_3_3, []) := by kernel_rfl
theorem sO_3_1 : cRun P26 60 11 150 [t26_3_1] = some (.int 3, []) := by kernel_rfl
theorem sO_3_2 : cRun P26 60 11 150 [t26_3_2] = some (.int 4, []) := by kernel_rfl
theorem sO_3_3 : cRun P26 60 11 150 [t26_3_3] = some (.int 3, []) := by kernel_rfl
theorem sE_3_1 : cRun P26 60 11 282 [t26_3_1] = some (f2 (3) 8, []) := by kernel_rfl
theorem sE_3_2 : cRun P26 60 11 282 [t26_3_2] = some (f2 (-19) 720, []) := by kernel_rfl
theorem sE_3_3 : cRun P26 60 11 282 [t26_3_3] = some (f2 (-1) 4, []) := by kernel_rfl
theorem sL_3 (v : D) : cS 60 (cRun P26 60 11) P26.gl (sAt F325.body 9) [some v, some (.int 3), some (.tup [f2 (0) 1, f2 (0) 1, f2 (-1) 1, f2 (1) 1]), some (.lst [t26_3_1, t26_3_2, t26_3_3]), some (.lst [f2 (0) 1, f2 (1) 1, f2 (1) 2, f2 (1) 3]), some (.lst [t26_3_1, t26_3_2, t26_3_3]), none, some (.lst [f2 (1) 1, f2 (1) 2, f2 (5) 12, f2 (3) 8]), some (.lst [f2 (1) 1, f2 (-1) 2, f2 (-1) 12, f2 (-1) 24, f2 (-19) 720]), none, none] = some (.nx, [some v, some (.int 3), some (.tup [f2 (0) 1, f2 (0) 1, f2 (-1) 1, f2 (1) 1]), some (.lst [t26_3_1, t26_3_2, t26_3_3]), some (.lst [f2 (0) 1, f2 (1) 1, f2 (1) 2, f2 (1) 3]), some (.lst [t26_3_1, t26_3_2, t26_3_3]), some (.lst [f2 (3) 8, f2 (-19) 720, f2 (-1) 4]), some (.lst [f2 (1) 1, f2 (1) 2, f2 (5) 12, f2 (3) 8]), some (.lst [f2 (1) 1, f2 (-1) 2, f2 (-1) 12, f2 (-1) 24, f2 (-19) 720]), none, none]) := by kernel_rfl
theorem r26_3 : R26 3 := ⟨⟨_, t26_3_1, t26_3_2, t26_3_3, _, _, _, _, _, _, .non, .non, sA_3, sT_3_1, sT_3_2, sT_3_3, sO_3_1, sO_3_2, sO_3_3, sE_3_1, sE_3_2, sE_3_3, sL_3, by decide +kernel, by decide +kernel, by decide +kernel, by decide +kernel, by decide +kernel, by decide +kernel⟩⟩
def t26_4_1 : D := .tup [.tup [f2 (0) 1, f2 (0) 1, f2 (0) 1, f2 (-1) 1, f2 (1) 1], .tup [f2 (-3) 8, f2 (37) 24, f2 (-59) 24, f2 (55) 24, f2 (0) 1]]
def t26_4_2 : D := .tup [.tup [f2 (0) 1, f2 (0) 1, f2 (0) 1, f2 (-1) 1, f2 (1) 1], .tup [f2 (-19) 720, f2 (53) 360, f2 (-11) 30, f2 (323) 360, f2 (251) 720]]
def t26_4_3 : D := .tup [.tup [f2 (1) 4, f2 (-4) 3, f2 (3) 1, f2 (-4) 1, f2 (25) 12], .tup [f2 (0) 1, f2 (0) 1, f2 (0) 1, f2 (0) 1, f2 (1) 1]]
theorem sA_4 (v : D) : cL 60 (cRun P26 60 11) P26.gl (sTk (sTl F325.body 1) 5) [some v, some (.int 4), none, none, none, none, none, none, none, none, none] = some (.nx, [some v, some (.int 4), some (.tup [f2 (0) 1, f2 (0) 1, f2 (0) 1, f2 (-1) 1, f2 (1) 1]), some (.lst [t26_4_1, t26_4_2, t26_4_3]), some (.lst [f2 (0) 1, f2 (1) 1, f2 (1) 2, f2 (1) 3, f2 (1) 4]), none, none, some (.lst [f2 (1) 1, f2 (1) 2, f2 (5) 12, f2 (3) 8, f2 (251) 720]), some (.lst [f2 (1) 1, f2 (-1) 2, f2 (-1) 12, f2 (-1) 24, f2 (-19) 720, f2 (-3) 160]), none, none]) := by kernel_rfl
theorem sT_4_1 : cRun P26 60 11 319 [.int 4] = some (t26_4_1, []) := by kernel_rfl
theorem sT_4_2 : cRun P26 60 11 320 [.int 4] = some (t26_4_2, []) := by kernel_rfl
theorem sT_4_3 : cRun P26 60 11 321 [.int 4] = some (t26_4_3, []) := by kernel_rfl
theorem sO_4_1 : cRun P26 60 11 150 [t26_4_1] = some (.int 4, []) := by kernel_rfl
theorem sO_4_2 : cRun P26 60 11 150 [t26_4_2] = some (.int 5, []) := by kernel_rfl
theorem sO_4_3 : cRun P26 60 11 150 [t26_4_3] = some (.int 4, []) := by kernel_rfl
theorem sE_4_1 : cRun P26 60 11 282 [t26_4_1] = some (f2 (251) 720, []) := by kernel_rfl
theorem sE_4_2 : cRun P26 60 11 282 [t26_4_2] = some (f2 (-3) 160, []) := by kernel_rfl
theorem sE_4_3 : cRun P26 60 11 282 [t26_4_3] = some (f2 (-1) 5, []) := by kernel_rfl
theorem sL_4 (v : D) : cS 60 (cRun P26 60 11) P26.gl (sAt F325.body 9) [some v, some (.int 4), some (.tup [f2 (0) 1, f2 (0) 1, f2 (0) 1, f2 (-1) 1, f2 (1) 1]), some (.lst [t26_4_1, t26_4_2, t26_4_3]), some (.lst [f2 (0) 1, f2 (1) 1, f2 (1) 2, f2 (1) 3, f2 (1) 4]), some (.lst [t26_4_1, t26_4_2, t26_4_3]), none, some (.lst [f2 (1) 1, f2 (1) 2, f2 (5) 12, f2 (3) 8, f2 (251) 720]), some (.lst [f2 (1) 1, f2 (-1) 2, f2 (-1) 12, f2 (-1) 24, f2 (-19) 720, f2 (-3) 160]), none, none] = some (.nx, [some v, some (.int 4), some (.tup [f2 (0) 1, f2 (0) 1, f2 (0) 1, f2 (-1) 1, f2 (1) 1]), some (.lst [t26_4_1, t26_4_2, t26_4_3]), some (.lst [f2 (0) 1, f2 (1) 1, f2 (1) 2, f2 (1) 3, f2 (1) 4]), some (.lst [t26_4_1, t26_4_2, t26_4_3]), some (.lst [f2 (251) 720, f2 (-3) 160, f2 (-1) 5]), some (.lst [f2 (1) 1, f2 (1) 2, f2 (5) 12, f2 (3) 8, f2 (251) 720]), some (.lst [f2 (1) 1, f2 (-1) 2, f2 (-1) 12, f2 (-1) 24, f2 (-19) 720, f2 (-3) 160]), none, none]) := by kernel_rfl
theorem r26_4 : R26 4 := ⟨⟨_, t26_4_1, t26_4_2, t26_4_3, _, _, _, _, _, _, .non, .non, sA_4, sT_4_1, sT_4_2, sT_4_3, sO_4_1, sO_4_2, sO_4_3, sE_4_1, sE_4_2, sE_4_3, sL_4, by decide +kernel, by decide +kernel, by decide +kernel, by decide +kernel, by decide +kernel, by decide +kernel⟩⟩
def t26_5_1 : D := .tup [.tup [f2 (0) 1, f2 (0) 1, f2 (0) 1, f2 (0) 1, f2 (-1) 1, f2 (1) 1], .tup [f2 (251) 720, f2 (-637) 360, f2 (109) 30, f2 (-1387) 360, f2 (1901) 720, f2 (0) 1]]
def t26_5_2 : D := .tup [.tup [f2 (0) 1, f2 (0) 1, f2 (0) 1, f2 (0) 1, f2 (-1) 1, f2 (1) 1], .tup [f2 (3) 160, f2 (-173) 1440, f2 (241) 720, f2 (-133) 240, f2 (1427) 1440, f2 (95) 288]]
def t26_5_3 : D := .tup [.tup [f2 (-1) 5, f2 (5) 4, f2 (-10) 3, f2 (5) 1, f2 (-5) 1, f2 (137) 60], .tup [f2 (0) 1, f2 (0) 1, f2 (0) 1, f2 (0) 1, f2 (0) 1, f2 (1) 1]]
theorem sA_5 (v : D) : cL 60 (cRun P26 60 11) P26.gl (sTk (sTl F325.body 1) 5) [some v, some (.int 5), none, none, none, none, none, none, none, none, none] = some (.nx, [some v, some (.int 5), some (.tup [f2 (0) 1, f2 (0) 1, f2 (0) 1, f2 (0) 1, f2 (-1) 1, f2 (1) 1]), some (.lst [t26_5_1, t26_5_2, t26_5_3]), some (.lst [f2 (0) 1, f2 (1) 1, f2 (1) 2, f2 (1) 3, f2 (1) 4, f2 (1) 5]), none, none, some (.lst [f2 (1) 1, f2 (1) 2, f2 (5) 12, f2 (3) 8, f2 (251) 720, f2 (95) 288]), some (.lst [f2 (1) 1, f2 (-1) 2, f2 (-1) 12, f2 (-1) 24, f2 (-19) 720, f2 (-3) 160, f2 (-863) 60480]), none, none]) := by kernel_rfl
theorem sT_5_1 : cRun P26 60 11 319 [.int 5] = some (t26_5_1, []) := by kernel_rfl
theorem sT_5_2 : cRun P26 60 11 320 [.int 5] = some (t26_5_2, []) := by kernel_rfl
theorem sT_5_3 : cRun P26 60 11 321 [.int 5] = some (t26_5_3, []) := by kernel_rfl
theorem sO_5_1 : cRun P26 60 11 150 [t26_5_1] = some (.int 5, []) := by kernel_rfl
theorem sO_5_2 : cRun P26 60 11 150 [t26_5_2] = some (.int 6, []) := by kernel_rfl
theorem sO_5_3 : cRun P26 60 11 150 [t26_5_3] = some (.int 5, []) := by kernel_rfl
theorem sE_5_1 : cRun P26 60 11 282 [t26_5_1] = some (f2 (95) 288, []) := by kernel_rfl
theorem sE_5_2 : cRun P26 60 11 282 [t26_5_2] = some (f2 (-863) 60480, []) := by kernel_rfl
theorem sE_5_3 : cRun P26 60 11 282 [t26_5_3] = some (f2 (-1) 6, []) := by kernel_rfl
theorem sL_5 (v : D) : cS 60 (cRun P26 60 11) P26.gl (sAt F325.body 9) [some v, some (.int 5), some (.tup [f2 (0) 1, f2 (0) 1, f2 (0) 1, f2 (0) 1, f2 (-1) 1, f2 (1) 1]), some (.lst [t26_5_1, t26_5_2, t26_5_3]), some (.lst [f2 (0) 1, f2 (1) 1, f2 (1) 2, f2 (1) 3, f2 (1) 4, f2 (1) 5]), some (.lst [t26_5_1, t26_5_2, t26_5_3]), none, some (.lst [f2 (1) 1, f2 (1) 2, f2 (5) 12, f2 (3) 8, f2 (251) 720, f2 (95) 288]), some (.lst [f2 (1) 1, f2 (-1) 2, f2 (-1) 12, f2 (-1) 24, f2 (-19) 720, f2 (-3) 160, f2 (-863) 60480]), none, none] = some (.nx, [some v, some (.int 5), some (.tup [f2 (0) 1, f2 (0) 1, f2 (0) 1, f2 (0) 1, f2 (-1) 1, f2 (1) 1]), some (.lst [t26_5_1, t26_5_2, t26_5_3]), some (.lst [f2 (0) 1, f2 (1) 1, f2 (1) 2, f2 (1) 3, f2 (1) 4, f2 (1) 5]), some (.lst [t26_5_1, t26_5_2, t26_5_3]), some (.lst [f2 (95) 288, f2 (-863) 60480, f2 (-1) 6]), some (.lst [f2 (1) 1, f2 (1) 2, f2 (5) 12, f2 (3) 8, f2 (251) 720, f2 (95) 288]), some (.lst [f2 (1) 1, f2 (-1) 2, f2 (-1) 12, f2 (-1) 24, f2 (-19) 720, f2 (-3) 160, f2 (-863) 60480]), none, none]) := by kernel_rfl
theorem r26_5 : R26 5 := ⟨⟨_, t26_5_1, t26_5_2, t26_5_3, _, _, _, _, _, _, .non, .non, sA_5, sT_5_1, sT_5_2, sT_5_3, sO_5_1, sO_5_2, sO_5_3, sE_5_1, sE_5_2, sE_5_3, sL_5, by decide +kernel, by decide +kernel, by decide +kernel, by decide +kernel, by decide +kernel, by decide +kernel⟩⟩
def t26_6_1 : D := .tup [.tup [f2 (0) 1, f2 (0) 1, f2 (0) 1, f2 (0) 1, f2 (0) 1, f2 (-1) 1, f2 (1) 1], .tup [f2 (-95) 288, f2 (959) 480, f2 (-3649) 720, f2 (4991) 720, f2 (-2641) 480, f2 (4277) 1440, f2 (0) 1]]
def t26_6_2 : D := .tup [.tup [f2 (0) 1, f2 (0) 1, f2 (0) 1, f2 (0) 1, f2 (0) 1, f2 (-1) 1, f2 (1) 1], .tup [f2 (-863) 60480, f2 (263) 2520, f2 (-6737) 20160, f2 (586) 945, f2 (-15487) 20160, f2 (2713) 2520, f2 (19087) 60480]]
def t26_6_3 : D := .tup [.tup [f2 (1) 6, f2 (-6) 5, f2 (15) 4, f2 (-20) 3, f2 (15) 2, f2 (-6) 1, f2 (49) 20], .tup [f2 (0) 1, f2 (0) 1, f2 (0) 1, f2 (0) 1, f2 (0) 1, f2 (0) 1, f2 (1) 1]]
theorem sA_6 (v : D) : cL 60 (cRun P26 60 11) P26.gl (sTk (sTl F325.body 1) 5) [some v, some (.int 6), none, none, none, none, none, none, none, none, none] = some (.nx, [some v, some (.int 6), some (.tup [f2 (0) 1, f2 (0) 1, f2 (0) 1, f2 (0) 1, f2 (0) 1, f2 (-1) 1, f2 (1) 1]), some (.lst [t26_6_1, t26_6_2, t26_6_3]), some (.lst [f2 (0) 1, f2 (1) 1, f2 (1) 2, f2 (1) 3, f2 (1) 4, f2 (1) 5, f2 (1) 6]), none, none, some (.lst [f2 (1) 1, f2 (1) 2, f2 (5) 12, f2 (3) 8, f2 (251) 720, f2 (95) 288, f2 (19087) 60480]), some (.lst [f2 (1) 1, f2 (-1) 2, f2 (-1) 12, f2 (-1) 24, f2 (-19) 720, f2 (-3) 160, f2 (-863) 60480, f2 (-275) 24192]), none, none]) := by kernel_rfl
theorem sT_6_1 : cRun P26 60 11 319 [.int 6] = some (t26_6_1, []) := by kernel_rfl
theorem sT_6_2 : cRun P26 60 11 320 [.int 6] = some (t26_6_2, []) := by kernel_rfl
theorem sT_6_3 : cRun P26 60 11 321 [.int 6] = some (t26_6_3, []) := by kernel_rfl
theorem sO_6_1 : cRun P26 60 11 150 [t26_6_1] = some (.int 6, []) := by kernel_rfl
theorem sO_6_2 : cRun P26 60 11 150 [t26_6_2] = some (.int 7, []) := by kernel_rfl
theorem sO_6_3 : cRun P26 60 11 150 [t26_6_3] = some (.int 6, []) := by kernel_rfl
theorem sE_6_1 : cRun P26 60 11 282 [t26_6_1] = some (f2 (19087) 60480, []) := by kernel_rfl
theorem sE_6_2 : cRun P26 60 11 282 [t26_6_2] = some (f2 (-275) 24192, []) := by kernel_rfl
theorem sE_6_3 : cRun P26 60 11 282 [t26_6_3] = some (f2 (-1) 7, []) := by kernel_rfl
theorem sL_6 (v : D) : cS 60 (cRun P26 60 11) P26.gl (sAt F325.body 9) [some v, some (.int 6), some (.tup [f2 (0) 1, f2 (0) 1, f2 (0) 1, f2 (0) 1, f2 (0) 1, f2 (-1) 1, f2 (1) 1]), some (.lst [t26_6_1, t26_6_2, t26_6_3]), some (.lst [f2 (0) 1, f2 (1) 1, f2 (1) 2, f2 (1) 3, f2 (1) 4, f2 (1) 5, f2 (1) 6]), some (.lst [t26_6_1, t26_6_2, t26_6_3]), none, some (.lst [f2 (1) 1, f2 (1) 2, f2 (5) 12, f2 (3) 8, f2 (251) 720, f2 (95) 288, f2 (19087) 60480]), some (.lst [f2 (1) 1, f2 (-1) 2, f2 (-1) 12, f2 (-1) 24, f2 (-19) 720, f2 (-3) 160, f2 (-863) 60480, f2 (-275) 24192]), none, none] = some (.nx, [some v, some (.int 6), some (.tup [f2 (0) 1, f2 (0) 1, f2 (0) 1, f2 (0) 1, f2 (0) 1, f2 (-1) 1, f2 (1) 1]), some (.lst [t26_6_1, t26_6_2, t26_6_3]), some (.lst [f2 (0) 1, f2 (1) 1, f2 (1) 2, f2 (1) 3, f2 (1) 4, f2 (1) 5, f2 (1) 6]), some (.lst [t26_6_1, t26_6_2, t26_6_3]), some (.lst [f2 (19087) 60480, f2 (-275) 24192, f2 (-1) 7]), some (.lst [f2 (1) 1, f2 (1) 2, f2 (5) 12, f2 (3) 8, f2 (251) 720, f2 (95) 288, f2 (19087) 60480]), some (.lst [f2 (1) 1, f2 (-1) 2, f2 (-1) 12, f2 (-1) 24, f2 (-19) 720, f2 (-3) 160, f2 (-863) 60480, f2 (-275) 24192]), none, none]) := by kernel_rfl
theorem r26_6 : R26 6 := ⟨⟨_, t26_6_1, t26_6_2, t26_6_3, _, _, _, _, _, _, .non, .non, sA_6, sT_6_1, sT_6_2, sT_6_3, sO_6_1, sO_6_2, sO_6_3, sE_6_1, sE_6_2, sE_6_3, sL_6, by decide +kernel, by decide +kernel, by decide +kernel, by decide +kernel, by decide +kernel, by decide +kernel⟩⟩
def t26_7_1 : D := .tup [.tup [f2 (0) 1, f2 (0) 1, f2 (0) 1, f2 (0) 1, f2 (0) 1, f2 (0) 1, f2 (-1) 1, f2 (1) 1], .tup [f2 (19087) 60480, f2 (-5603) 2520, f2 (135713) 20160, f2 (-10754) 945, f2 (235183) 20160, f2 (-18637) 2520, f2 (198721) 60480, f2 (0) 1]]
def t26_7_2 : D := .tup [.tup [f2 (0) 1, f2 (0) 1, f2 (0) 1, f2 (0) 1, f2 (0) 1, f2 (0) 1, f2 (-1) 1, f2 (1) 1], .tup [f2 (275) 24192, f2 (-11351) 120960, f2 (1537) 4480, f2 (-88547) 120960, f2 (123133) 120960, f2 (-4511) 4480, f2 (139849) 120960, f2 (5257) 17280]]
def t26_7_3 : D := .tup [.tup [f2 (-1) 7, f2 (7) 6, f2 (-21) 5, f2 (35) 4, f2 (-35) 3, f2 (21) 2, f2 (-7) 1, f2 (363) 140], .tup [f2 (0) 1, f2 (0) 1, f2 (0) 1, f2 (0) 1, f2 (0) 1, f2 (0) 1, f2 (0) 1, f2 (1) 1]]
theorem sA_7 (v : D) : cL 60 (cRun P26 60 11) P26.gl (sTk (sTl F325.body 1) 5) [some v, some (.int 7), none, none, none, none, none, none, none, none, none] = some (.nx, [some v, some (.int 7), some (.tup [f2 (0) 1, f2 (0) 1, f2 (0) 1, f2 (0) 1, f2 (0) 1, f2 (0) 1, f2 (-1) 1, f2 (1) 1]), some (.lst [t26_7_1, t26_7_2, t26_7_3]), some (.lst [f2 (0) 1, f2 (1) 1, f2 (1) 2, f2 (1) 3, f2 (1) 4, f2 (1) 5, f2 (1) 6, f2 (1) 7]), none, none, some (.lst [f2 (1) 1, f2 (1) 2, f2 (5) 12, f2 (3) 8, f2 (251) 720, f2 (95) 288, f2 (19087) 60480, f2 (5257) 17280]), some (.lst [f2 (1) 1, f2 (-1) 2, f2 (-1) 12, f2 (-1) 24, f2 (-19) 720, f2 (-3) 160, f2 (-863) 60480, f2 (-275) 24192, f2 (-33953) 3628800]), none, none]) := by kernel_rfl
theorem sT_7_1 : cRun P26 60 11 319 [.int 7] = some (t26_7_1, []) := by kernel_rfl
theorem sT_7_2 : cRun P26 60 11 320 [.int 7] = some (t26_7_2, []) := by kernel_rfl
theorem sT_7_3 : cRun P26 60 11 321 [.int 7] = some (t26_7_3, []) := by kernel_rfl
theorem sO_7_1 : cRun P26 60 11 150 [t26_7_1] = some (.int 7, []) := by kernel_rfl
theorem sO_7_2 : cRun P26 60 11 150 [t26_7_2] = some (.int 8, []) := by kernel_rfl
theorem sO_7_3 : cRun P26 60 11 150 [t26_7_3] = some (.int 7, []) := by kernel_rfl
theorem sE_7_1 : cRun P26 60 11 282 [t26_7_1] = some (f2 (5257) 17280, []) := by kernel_rfl
theorem sE_7_2 : cRun P26 60 11 282 [t26_7_2] = some (f2 (-33953) 3628800, []) := by kernel_rfl
theorem sE_7_3 : cRun P26 60 11 282 [t26_7_3] = some (f2 (-1) 8, []) := by kernel_rfl
theorem sL_7 (v : D) : cS 60 (cRun P26 60 11) P26.gl (sAt F325.body 9) [some v, some (.int 7), some (.tup [f2 (0) 1, f2 (0) 1, f2 (0) 1, f2 (0) 1, f2 (0) 1, f2 (0) 1, f2 (-1) 1, f2 (1) 1]), some (.lst [t26_7_1, t26_7_2, t26_7_3]), some (.lst [f2 (0) 1, f2 (1) 1, f2 (1) 2, f2 (1) 3, f2 (1) 4, f2 (1) 5, f2 (1) 6, f2 (1) 7]), some (.lst [t26_7_1, t26_7_2, t26_7_3]), none, some (.lst [f2 (1) 1, f2 (1) 2, f2 (5) 12, f2 (3) 8, f2 (251) 720, f2 (95) 288, f2 (19087) 60480, f2 (5257) 17280]), some (.lst [f2 (1) 1, f2 (-1) 2, f2 (-1) 12, f2 (-1) 24, f2 (-19) 720, f2 (-3) 160, f2 (-863) 60480, f2 (-275) 24192, f2 (-33953) 3628800]), none, none] = some (.nx, [some v, some (.int 7), some (.tup [f2 (0) 1, f2 (0) 1, f2 (0) 1, f2 (0) 1, f2 (0) 1, f2 (0) 1, f2 (-1) 1, f2 (1) 1]), some (.lst [t26_7_1, t26_7_2, t26_7_3]), some (.lst [f2 (0) 1, f2 (1) 1, f2 (1) 2, f2 (1) 3, f2 (1) 4, f2 (1) 5, f2 (1) 6, f2 (1) 7]), some (.lst [t26_7_1, t26_7_2, t26_7_3]), some (.lst [f2 (5257) 17280, f2 (-33953) 3628800, f2 (-1) 8]), some (.lst [f2 (1) 1, f2 (1) 2, f2 (5) 12, f2 (3) 8, f2 (251) 720, f2 (95) 288, f2 (19087) 60480, f2 (5257) 17280]), some (.lst [f2 (1) 1, f2 (-1) 2, f2 (-1) 12, f2 (-1) 24, f2 (-19) 720, f2 (-3) 160, f2 (-863) 60480, f2 (-275) 24192, f2 (-33953) 3628800]), none, none]) := by kernel_rfl
theorem r26_7 : R26 7 := ⟨⟨_, t26_7_1, t26_7_2, t26_7_3, _, _, _, _, _, _, .non, .non, sA_7, sT_7_1, sT_7_2, sT_7_3, sO_7_1, sO_7_2, sO_7_3, sE_7_1, sE_7_2, sE_7_3, sL_7, by decide +kernel, by decide +kernel, by decide +kernel, by decide +kernel, by decide +kernel, by decide +kernel⟩⟩
def t26_8_1 : D := .tup [.tup [f2 (0) 1, f2 (0) 1, f2 (0) 1, f2 (0) 1, f2 (0) 1, f2 (0) 1, f2 (0) 1, f2 (-1) 1, f2 (1) 1], .tup [f2 (-5257) 17280, f2 (32863) 13440, f2 (-115747) 13440, f2 (2102243) 120960, f2 (-296053) 13440, f2 (242653) 13440, f2 (-1152169) 120960, f2 (16083) 4480, f2 (0) 1]]
def t26_8_2 : D := .tup [.tup [f2 (0) 1, f2 (0) 1, f2 (0) 1, f2 (0) 1, f2 (0) 1, f2 (0) 1, f2 (0) 1, f2 (-1) 1, f2 (1) 1], .tup [f2 (-33953) 3628800, f2 (156437) 1814400, f2 (-645607) 1814400, f2 (1573169) 1814400, f2 (-31457) 22680, f2 (2797679) 1814400, f2 (-2302297) 1814400, f2 (2233547) 1814400, f2 (1070017) 3628800]]
def t26_8_3 : D := .tup [.tup [f2 (1) 8, f2 (-8) 7, f2 (14) 3, f2 (-56) 5, f2 (35) 2, f2 (-56) 3, f2 (14) 1, f2 (-8) 1, f2 (761) 280], .tup [f2 (0) 1, f2 (0) 1, f2 (0) 1, f2 (0) 1, f2 (0) 1, f2 (0) 1, f2 (0) 1, f2 (0) 1, f2 (1) 1]]
theorem sA_8 (v : D) : cL 60 (cRun P26 60 11) P26.gl (sTk (sTl F325.body 1) 5) [some v, some (.int 8), none, none, none, none, none, none, none, none, none] = some (.nx, [some v, some (.int 8), some (.tup [f2 (0) 1, f2 (0) 1, f2 (0) 1, f2 (0) 1, f2 (0) 1, f2 (0) 1, f2 (0) 1, f2 (-1) 1, f2 (1) 1]), some (.lst [t26_8_1, t26_8_2, t26_8_3]), some (.lst [f2 (0) 1, f2 (1) 1, f2 (1) 2, f2 (1) 3, f2 (1) 4, f2 (1) 5, f2 (1) 6, f2 (1) 7, f2 (1) 8]), none, none, some (.lst [f2 (1) 1, f2 (1) 2, f2 (5) 12, f2 (3) 8, f2 (251) 720, f2 (95) 288, f2 (19087) 60480, f2 (5257) 17280, f2 (1070017) 3628800]), some (.lst [f2 (1) 1, f2 (-1) 2, f2 (-1) 12, f2 (-1) 24, f2 (-19) 720, f2 (-3) 160, f2 (-863) 60480, f2 (-275) 24192, f2 (-33953) 3628800, f2 (-8183) 1036800]), none, none]) := by kernel_rfl
theorem sT_8_1 : cRun P26 60 11 319 [.int 8] = some (t26_8_1, []) := by kernel_rfl
theorem sT_8_2 : cRun P26 60 11 320 [.int 8] = some (t26_8_2, []) := by kernel_rfl
theorem sT_8_3 : cRun P26 60 11 321 [.int 8] = some (t26_8_3, []) := by kernel_rfl
theorem sO_8_1 : cRun P26 60 11 150 [t26_8_1] = some (.int 8, []) := by kernel_rfl
theorem sO_8_2 : cRun P26 60 11 150 [t26_8_2] = some (.int 9, []) := by kernel_rfl
theorem sO_8_3 : cRun P26 60 11 150 [t26_8_3] = some (.int 8, []) := by kernel_rfl
theorem sE_8_1 : cRun P26 60 11 282 [t26_8_1] = some (f2 (1070017) 3628800, []) := by kernel_rfl
theorem sE_8_2 : cRun P26 60 11 282 [t26_8_2] = some (f2 (-8183) 1036800, []) := by kernel_rfl
theorem sE_8_3 : cRun P26 60 11 282 [t26_8_3] = some (f2 (-1) 9, []) := by kernel_rfl
theorem sL_8 (v : D) : cS 60 (cRun P26 60 11) P26.gl (sAt F325.body 9) [some v, some (.int 8), some (.tup [f2 (0) 1, f2 (0) 1, f2 (0) 1, f2 (0) 1, f2 (0) 1, f2 (0) 1, f2 (0) 1, f2 (-1) 1, f2 (1) 1]), some (.lst [t26_8_1, t26_8_2, t26_8_3]), some (.lst [f2 (0) 1, f2 (1) 1, f2 (1) 2, f2 (1) 3, f2 (1) 4, f2 (1) 5, f2 (1) 6, f2 (1) 7, f2 (1) 8]), some (.lst [t26_8_1, t26_8_2, t26_8_3]), none, some (.lst [f2 (1) 1, f2 (1) 2, f2 (5) 12, f2 (3) 8, f2 (251) 720, f2 (95) 288, f2 (19087) 60480, f2 (5257) 17280, f2 (1070017) 3628800]), some (.lst [f2 (1) 1, f2 (-1) 2, f2 (-1) 12, f2 (-1) 24, f2 (-19) 720, f2 (-3) 160, f2 (-863) 60480, f2 (-275) 24192, f2 (-33953) 3628800, f2 (-8183) 1036800]), none, none] = some (.nx, [some v, some (.int 8), some (.tup [f2 (0) 1, f2 (0) 1, f2 (0) 1, f2 (0) 1, f2 (0) 1, f2 (0) 1, f2 (0) 1, f2 (-1) 1, f2 (1) 1]), some (.lst [t26_8_1, t26_8_2, t26_8_3]), some (.lst [f2 (0) 1, f2 (1) 1, f2 (1) 2, f2 (1) 3, f2 (1) 4, f2 (1) 5, f2 (1) 6, f2 (1) 7, f2 (1) 8]), some (.lst [t26_8_1, t26_8_2, t26_8_3]), some (.lst [f2 (1070017) 3628800, f2 (-8183) 1036800, f2 (-1) 9]), some (.lst [f2 (1) 1, f2 (1) 2, f2 (5) 12, f2 (3) 8, f2 (251) 720, f2 (95) 288, f2 (19087) 60480, f2 (5257) 17280, f2 (1070017) 3628800]), some (.lst [f2 (1) 1, f2 (-1) 2, f2 (-1) 12, f2 (-1) 24, f2 (-19) 720, f2 (-3) 160, f2 (-863) 60480, f2 (-275) 24192, f2 (-33953) 3628800, f2 (-8183) 1036800]), none, none]) := by kernel_rfl
theorem r26_8 : R26 8 := ⟨⟨_, t26_8_1, t26_8_2, t26_8_3, _, _, _, _, _, _, .non, .non, sA_8, sT_8_1, sT_8_2, sT_8_3, sO_8_1, sO_8_2, sO_8_3, sE_8_1, sE_8_2, sE_8_3, sL_8, by decide +kernel, by decide +kernel, by decide +kernel, by decide +kernel, by decide +kernel, by decide +kernel⟩⟩
theorem r26 {u : Nat} (h1 : 1 ≤ u) (h2 : u ≤ 8) : R26 u := by
  rcases show u = 1 ∨ u = 2 ∨ u = 3 ∨ u = 4 ∨ u = 5 ∨ u = 6 ∨ u = 7 ∨ u = 8 by omega with rfl | rfl | rfl | rfl | rfl | rfl | rfl | rfl
  · exact r26_1
  · exact r26_2
  · exact r26_3
  · exact r26_4
  · exact r26_5
  · exact r26_6
  · exact r26_7
  · exact r26_8
end LS
set_option maxHeartbeats 1000000
/-! YX: calls with two and three arguments. -/
namespace LS
open PySem L2
section
variable {C : CallT} {G : Nat → Option D} {a b c : E} {env : EnD} {d e r x : D}
theorem ev_call2 {f : Nat} (ha : ev C G a env = some (d, env)) (hb : ev C G b env = some (e, env)) (hC : C f [d, e] = some (r, [])) : ev C G (.call f (.val a (.val b .nil))) env = some (r, env) := by
  simp only [ev, evA]
  rw [ha]
  simp only [Option.bind_some]
  rw [hb]
  simp only [Option.bind_some, Option.map_some, fillA, hC, lentA, outA, Bool.false_and, Bool.false_eq_true, if_false]
theorem ev_call3 {f : Nat} (ha : ev C G a env = some (d, env)) (hb : ev C G b env = some (e, env)) (hc : ev C G c env = some (x, env)) (hC : C f [d, e, x] = some (r, [])) : ev C G (.call f (.val a (.val b (.val c .nil)))) env = some (r, env) := by
  simp only [ev, evA]
  rw [ha]
  simp only [Option.bind_some]
  rw [hb]
  simp only [Option.bind_some]
  rw [hc]
  simp only [Option.bind_some, Option.map_some, fillA, hC, lentA, outA, Bool.false_and, Bool.false_eq_true, if_false]
theorem ev_callk2 {f : Nat} (ha : ev C G a env = some (d, env)) (hb : ev C G b env = some (e, env)) (hC : C f [e, d] = some (r, [])) : ev C G (.callk f .nil (.cons a (.cons b .nil)) [1, 0]) env = some (r, env) := by
  simp only [ev, evL, Option.bind_some]
  rw [ha]
  simp only [Option.bind_some]
  rw [hb]
  simp only [Option.bind_some, Option.map_some, permK, List.nil_append, List.getElem?_cons_zero, List.getElem?_cons_succ, hC]
theorem ex_at {s : E} (h : ev C G s env = some (d, env)) : exS C G (.ex s) env = some (.nx, env) := by
  simp only [exS]
  rw [h]
  rfl
end
theorem ev_lc {C : CallT} {G : Nat → Option D} {elt : E} {t : T} {it : I} {own : List Nat} {env : EnD} : ev C G (.lc elt t it own) env = (evI C G it env).bind fun p => (fits p.1).bind fun l => (lcL (fun e => ev C G elt e) t own l p.2).map fun q => (.lst q.1, backE q.2 p.2 own) := by
  simp only [ev]
theorem lc_runA {α : Type} {elt : EnD → Option (D × EnD)} {i : Nat} {a g : α → D} {env : EnD} : ∀ {xs : List α} {x : Option D}, (∀ z ∈ xs, elt (env.set i (some (a z))) = some (g z, env.set i (some (a z)))) → ∃ y, lcL elt (.n i) [i] (xs.map a) (env.set i x) = some (xs.map g, env.set i y)
  | [], x, h => ⟨x, by unfold lcL; rfl⟩
  | d :: ds, x, h => by
    obtain ⟨y, hy⟩ := lc_runA (xs := ds) (x := some (a d)) fun e he => h e (List.mem_cons_of_mem _ he)
    refine ⟨y, ?_⟩
    show lcL elt (.n i) [i] (a d :: ds.map a) _ = _
    unfold lcL
    have e1 : asgT (.n i) (a d) (wipeE (env.set i x) [i]) = some (env.set i (some (a d))) := by
      show some (((env.set i x).set i none).set i (some (a d))) = _
      rw [List.set_set, List.set_set]
    rw [e1]
    simp only [Option.bind_some]
    rw [h d (List.mem_cons_self ..)]
    simp only [Option.bind_some]
    rw [hy]
    rfl
theorem lc_evA {α : Type} {C : CallT} {G : Nat → Option D} {elt : E} {i : Nat} {it : I} {env : EnD} {xs : List α} {a g : α → D} (hI : evI C G it env = some (xs.map a, env)) (hf : xs.length ≤ 1000000) (hi : i < env.length) (he : ∀ z ∈ xs, ev C G elt (env.set i (some (a z))) = some (g z, env.set i (some (a z)))) : ev C G (.lc elt (.n i) it [i]) env = some (.lst (xs.map g), env) := by
  obtain ⟨y, hy⟩ := lc_runA (x := (env[i]?).join) he
  rw [set_back hi] at hy
  rw [ev_lc, hI]
  simp only [Option.bind_some]
  rw [show fits (xs.map a) = some (xs.map a) from if_pos (by rw [List.length_map]; exact hf)]
  simp only [Option.bind_some]
  rw [hy]
  simp only [Option.map_some]
  show some (D.lst (xs.map g), (env.set i y).set i ((env[i]?).join)) = _
  rw [List.set_set, set_back hi]
end LS
set_option maxHeartbeats 1000000
/-! WA: sums and products of rows of numbers. -/
namespace LS
def sumR : Nat → (Nat → Rat) → Rat
  | 0, _ => 0
  | n + 1, f => sumR n f + f n
theorem sumR_congr {f g : Nat → Rat} : ∀ {n : Nat}, (∀ i, i < n → f i = g i) → sumR n f = sumR n g
  | 0, _ => rfl
  | n + 1, h => by
    unfold sumR
    rw [sumR_congr fun i hi => h i (by omega), h n (by omega)]
theorem sumR_head {f : Nat → Rat} : ∀ {n : Nat}, sumR (n + 1) f = f 0 + sumR n fun i => f (i + 1)
  | 0 => by simp only [sumR]; grind
  | n + 1 => by
    have h := sumR_head (f := f) (n := n)
    have e : sumR (n + 1 + 1) f = sumR (n + 1) f + f (n + 1) := rfl
    have e2 : (sumR (n + 1) fun i => f (i + 1)) = (sumR n fun i => f (i + 1)) + f (n + 1) := rfl
    rw [e, h, e2]
    grind
theorem sumR_add {f g : Nat → Rat} : ∀ {n : Nat}, (sumR n fun i => f i + g i) = sumR n f + sumR n g
  | 0 => by simp only [sumR]; grind
  | n + 1 => by
    simp only [sumR, sumR_add (n := n)]
    grind
theorem sumR_mul {f : Nat → Rat} {c : Rat} : ∀ {n : Nat}, (sumR n fun i => c * f i) = c * sumR n f
  | 0 => by simp only [sumR]; grind
  | n + 1 => by
    simp only [sumR, sumR_mul (n := n)]
    grind
theorem sumR_zero {f : Nat → Rat} : ∀ {n : Nat}, (∀ i, i < n → f i = 0) → sumR n f = 0
  | 0, _ => rfl
  | n + 1, h => by
    unfold sumR
    rw [sumR_zero fun i hi => h i (by omega), h n (by omega)]
    grind
/-- terms that are nought behind m -/
theorem sumR_cut {f : Nat → Rat} {m : Nat} : ∀ {n : Nat}, m ≤ n → (∀ i, m ≤ i → i < n → f i = 0) → sumR n f = sumR m f
  | 0, hm, _ => by
    obtain rfl : m = 0 := by omega
    rfl
  | n + 1, hm, h => by
    by_cases e : m = n + 1
    · rw [e]
    · have : sumR (n + 1) f = sumR n f + f n := rfl
      rw [this, sumR_cut (n := n) (by omega) fun i h1 h2 => h i h1 (by omega), h n (by omega) (by omega)]
      grind
theorem sumR_rev {f : Nat → Rat} : ∀ {n : Nat}, sumR n f = sumR n fun i => f (n - 1 - i)
  | 0 => rfl
  | n + 1 => by
    have h := sumR_rev (f := f) (n := n)
    have e : sumR (n + 1) f = sumR n f + f n := rfl
    rw [sumR_head (f := fun i => f (n + 1 - 1 - i)), e, h]
    have e2 : (sumR n fun i => f (n - 1 - i)) = sumR n fun i => f (n + 1 - 1 - (i + 1)) := sumR_congr fun i hi => by
      show f (n - 1 - i) = f (n + 1 - 1 - (i + 1))
      congr 1
      omega
    rw [e2]
    show _ + f n = f (n + 1 - 1 - 0) + _
    have : n + 1 - 1 - 0 = n := by omega
    rw [this]
    grind
def conv (f g : Nat → Rat) (n : Nat) : Rat := sumR (n + 1) fun j => f j * g (n - j)
theorem conv_congr {f f' g g' : Nat → Rat} {n : Nat} (h1 : ∀ i, i ≤ n → f i = f' i) (h2 : ∀ i, i ≤ n → g i = g' i) : conv f g n = conv f' g' n := sumR_congr fun i hi => by
  show f i * g (n - i) = f' i * g' (n - i)
  rw [h1 i (by omega), h2 (n - i) (by omega)]
theorem conv_comm {f g : Nat → Rat} {n : Nat} : conv f g n = conv g f n := by
  unfold conv
  rw [sumR_rev]
  refine sumR_congr fun i hi => ?_
  show f (n + 1 - 1 - i) * g (n - (n + 1 - 1 - i)) = g i * f (n - i)
  have e1 : n + 1 - 1 - i = n - i := by omega
  have e2 : n - (n - i) = i := by omega
  rw [e1, e2]
  grind
theorem conv_cons {f g : Nat → Rat} {n : Nat} : conv f g (n + 1) = f 0 * g (n + 1) + conv (fun i => f (i + 1)) g n := by
  unfold conv
  rw [sumR_head]
  have : (sumR (n + 1) fun i => f (i + 1) * g (n + 1 - (i + 1))) = sumR (n + 1) fun j => f (j + 1) * g (n - j) := sumR_congr fun i hi => by
    show f (i + 1) * g (n + 1 - (i + 1)) = f (i + 1) * g (n - i)
    have : n + 1 - (i + 1) = n - i := by omega
    rw [this]
  rw [this]
  rfl
theorem conv_zero {f g : Nat → Rat} : conv f g 0 = f 0 * g 0 := by
  show (0 : Rat) + f 0 * g (0 - 0) = _
  grind
/-- linear in the first row -/
theorem conv_lin {u v h : Nat → Rat} {c : Rat} {n : Nat} : conv (fun i => c * u i + v i) h n = c * conv u h n + conv v h n := by
  unfold conv
  rw [← sumR_mul, ← sumR_add]
  refine sumR_congr fun i hi => ?_
  grind
def shf (u : Nat → Rat) (n : Nat) : Rat := match n with
  | 0 => 0
  | n + 1 => u n
theorem conv_shf {u h : Nat → Rat} {n : Nat} : conv (shf u) h (n + 1) = conv u h n := by
  rw [conv_cons]
  show (0 : Rat) * h (n + 1) + conv u h n = _
  grind
theorem conv_assoc : ∀ {n : Nat} {f g h : Nat → Rat}, conv (conv f g) h n = conv f (conv g h) n
  | 0, f, g, h => by
    rw [conv_zero, conv_zero, conv_zero, conv_zero]
    grind
  | n + 1, f, g, h => by
    have e : ∀ i, i ≤ n + 1 → conv f g i = f 0 * g i + shf (conv (fun i => f (i + 1)) g) i := fun i _ => by
      cases i with
      | zero =>
        rw [conv_zero]
        show _ = f 0 * g 0 + 0
        grind
      | succ i => exact conv_cons
    rw [conv_congr e fun i _ => rfl, conv_lin, conv_shf, conv_assoc (n := n), conv_cons (f := f)]
/-- one for the place 0 alone -/
def one0 (n : Nat) : Rat := if n = 0 then 1 else 0
theorem conv_one {f : Nat → Rat} {n : Nat} : conv one0 f n = f n := by
  unfold conv
  rw [sumR_head]
  have : (sumR n fun i => one0 (i + 1) * f (n - (i + 1))) = 0 := sumR_zero fun i hi => by
    show (if i + 1 = 0 then (1 : Rat) else 0) * _ = 0
    rw [if_neg (by omega)]
    grind
  rw [this]
  show (if 0 = 0 then (1 : Rat) else 0) * f n + 0 = f n
  rw [if_pos rfl]
  grind
/-- what times b gives the same is the same -/
theorem conv_inj {b g h : Nat → Rat} (b0 : b 0 ≠ 0) {N : Nat} (e : ∀ n, n ≤ N → conv b g n = conv b h n) : ∀ n, n ≤ N → g n = h n := by
  intro n
  induction n using Nat.strongRecOn with
  | ind n ih =>
    intro hn
    have hh := e n hn
    unfold conv at hh
    rw [sumR_head, sumR_head (f := fun j => b j * h (n - j))] at hh
    have : (sumR n fun i => b (i + 1) * g (n - (i + 1))) = sumR n fun i => b (i + 1) * h (n - (i + 1)) := sumR_congr fun i hi => by
      show b (i + 1) * g (n - (i + 1)) = b (i + 1) * h (n - (i + 1))
      rw [ih (n - (i + 1)) (by omega) (by omega)]
    rw [this] at hh
    have h0 : n - 0 = n := by omega
    simp only [h0] at hh
    generalize sumR n _ = S at hh
    have e1 : b 0 * g n = b 0 * h n := by grind
    grind
/-- a row's number, nought behind its end -/
def gt0 (l : List Rat) (n : Nat) : Rat := l.getD n 0
theorem gt0_out {l : List Rat} {n : Nat} (h : l.length ≤ n) : gt0 l n = 0 := by
  unfold gt0
  rw [List.getD_eq_getElem?_getD, List.getElem?_eq_none h]
  rfl
theorem gt0_in {l : List Rat} {n : Nat} (h : n < l.length) : gt0 l n = l[n] := by
  unfold gt0
  rw [List.getD_eq_getElem?_getD, List.getElem?_eq_getElem h]
  rfl
/-! kernels -/
def ker (b : Nat → Rat) : Nat → List Rat
  | 0 => []
  | n + 1 => ker b n ++ [(one0 n - sumR n fun i => b (i + 1) * gt0 (ker b n) (n - 1 - i)) / b 0]
theorem ker_len (b : Nat → Rat) : ∀ n, (ker b n).length = n
  | 0 => rfl
  | n + 1 => by
    unfold ker
    rw [List.length_append, ker_len b n]
    rfl
def gK (b : Nat → Rat) (n : Nat) : Rat := gt0 (ker b (n + 1)) n
theorem ker_pre (b : Nat → Rat) {i : Nat} : ∀ {n : Nat}, i < n → gt0 (ker b n) i = gK b i
  | 0, h => by omega
  | n + 1, h => by
    by_cases e : i = n
    · subst e; rfl
    · have hi : i < n := by omega
      rw [← ker_pre b hi]
      have e2 : ker b (n + 1) = ker b n ++ [(one0 n - sumR n fun i => b (i + 1) * gt0 (ker b n) (n - 1 - i)) / b 0] := rfl
      rw [e2]
      unfold gt0
      rw [List.getD_eq_getElem?_getD, List.getD_eq_getElem?_getD, List.getElem?_append_left (by rw [ker_len]; exact hi)]
theorem gK_eq (b : Nat → Rat) (n : Nat) : gK b n = (one0 n - sumR n fun i => b (i + 1) * gK b (n - 1 - i)) / b 0 := by
  have e2 : ker b (n + 1) = ker b n ++ [(one0 n - sumR n fun i => b (i + 1) * gt0 (ker b n) (n - 1 - i)) / b 0] := rfl
  have e3 : (sumR n fun i => b (i + 1) * gt0 (ker b n) (n - 1 - i)) = sumR n fun i => b (i + 1) * gK b (n - 1 - i) := sumR_congr fun i hi => by
    show b (i + 1) * gt0 (ker b n) (n - 1 - i) = b (i + 1) * gK b (n - 1 - i)
    rw [ker_pre b (by omega)]
  show gt0 (ker b (n + 1)) n = _
  rw [e2, e3]
  unfold gt0
  rw [List.getD_eq_getElem?_getD, List.getElem?_append_right (by rw [ker_len]; exact Nat.le_refl _), ker_len, Nat.sub_self]
  rfl
theorem conv_ker {b : Nat → Rat} (b0 : b 0 ≠ 0) (n : Nat) : conv b (gK b) n = one0 n := by
  unfold conv
  rw [sumR_head]
  have e : (sumR n fun i => b (i + 1) * gK b (n - (i + 1))) = sumR n fun i => b (i + 1) * gK b (n - 1 - i) := sumR_congr fun i hi => by
    show b (i + 1) * gK b (n - (i + 1)) = b (i + 1) * gK b (n - 1 - i)
    have : n - (i + 1) = n - 1 - i := by omega
    rw [this]
  rw [e]
  have h0 : n - 0 = n := by omega
  rw [h0, gK_eq b n]
  generalize sumR n _ = S
  grind
theorem ker_map (b : Nat → Rat) (n : Nat) : ker b n = (List.range n).map (gK b) := by
  refine List.ext_getElem (by rw [ker_len, List.length_map, List.length_range]) fun i h1 h2 => ?_
  rw [List.getElem_map, List.getElem_range, ← ker_pre b (n := n) (by rw [ker_len] at h1; exact h1), gt0_in h1]
end LS
set_option maxHeartbeats 1000000
/-! WB: sizes by common denominators. -/
namespace LS
def Fq (d : Int) (M : Nat) (q : Rat) : Prop := ∃ z : Int, q * (d : Rat) = (z : Rat) ∧ z.natAbs ≤ M
theorem cast_ne {d : Int} (h : d ≠ 0) : (d : Rat) ≠ 0 := fun z => h (Rat.intCast_eq_zero_iff.mp z)
theorem Fq.sz {d : Int} {M b : Nat} {q : Rat} (h : Fq d M q) (d0 : d ≠ 0) (hd : d.natAbs < 2 ^ b) (hM : M < 2 ^ b) : Sz b q := by
  obtain ⟨z, e, hz⟩ := h
  have hq : q = Rat.divInt z d := by
    rw [Rat.divInt_eq_div]
    have := cast_ne d0
    grind
  rw [hq]
  exact sz_div d0 (Nat.lt_of_le_of_lt hz hM) hd
theorem Fq.add {d : Int} {M M' : Nat} {q p : Rat} (h : Fq d M q) (h' : Fq d M' p) : Fq d (M + M') (q + p) := by
  obtain ⟨z, e, hz⟩ := h
  obtain ⟨y, e', hy⟩ := h'
  refine ⟨z + y, by rw [Rat.intCast_add]; grind, ?_⟩
  have := Int.natAbs_add_le z y
  omega
theorem Fq.sub {d : Int} {M M' : Nat} {q p : Rat} (h : Fq d M q) (h' : Fq d M' p) : Fq d (M + M') (q - p) := by
  obtain ⟨z, e, hz⟩ := h
  obtain ⟨y, e', hy⟩ := h'
  refine ⟨z - y, by rw [Rat.intCast_sub]; grind, ?_⟩
  omega
theorem Fq.mul {d e : Int} {M M' : Nat} {q p : Rat} (h : Fq d M q) (h' : Fq e M' p) : Fq (d * e) (M * M') (q * p) := by
  obtain ⟨z, e1, hz⟩ := h
  obtain ⟨y, e2, hy⟩ := h'
  refine ⟨z * y, by rw [Rat.intCast_mul, Rat.intCast_mul]; grind, ?_⟩
  rw [Int.natAbs_mul]
  exact Nat.mul_le_mul hz hy
theorem Fq.lift {d : Int} {M : Nat} {q : Rat} (h : Fq d M q) (e : Int) : Fq (d * e) (M * e.natAbs) q := by
  obtain ⟨z, e1, hz⟩ := h
  refine ⟨z * e, by rw [Rat.intCast_mul, Rat.intCast_mul]; grind, ?_⟩
  rw [Int.natAbs_mul]
  exact Nat.mul_le_mul_right _ hz
theorem Fq.mono {d : Int} {M M' : Nat} {q : Rat} (h : Fq d M q) (hM : M ≤ M') : Fq d M' q := by
  obtain ⟨z, e1, hz⟩ := h
  exact ⟨z, e1, Nat.le_trans hz hM⟩
theorem Fq.zero {d : Int} {M : Nat} : Fq d M 0 := ⟨0, by grind, by simp⟩
/-- what a kernel's number is: bounds of the row -/
structure Kb (b : Nat → Rat) (D al : Int) (N T : Nat) : Prop where
  d0 : D ≠ 0
  a0 : al ≠ 0
  top : b 0 * (D : Rat) = (al : Rat)
  aT : al.natAbs ≤ T
  row : ∀ i, Fq D N (b (i + 1))
theorem Kb.b0 {b : Nat → Rat} {D al : Int} {N T : Nat} (K : Kb b D al N T) : b 0 ≠ 0 := fun z => by
  have h := K.top
  rw [z] at h
  have := cast_ne K.a0
  grind
theorem ker_part {b : Nat → Rat} {D al : Int} {N T n : Nat} (K : Kb b D al N T) (ih : ∀ i, i < n → Fq (al ^ (i + 1)) (D.natAbs * (N + T) ^ i) (gK b i)) : ∀ m, m ≤ n → ∃ w : Int, (one0 n - sumR m fun i => b (i + 1) * gK b (n - 1 - i)) * ((D * al ^ n : Int) : Rat) = (w : Rat) ∧ w.natAbs + D.natAbs * (N + T) ^ (n - m) * T ^ m ≤ (if n = 0 then D.natAbs else 0) + D.natAbs * (N + T) ^ n
  | 0, _ => by
    by_cases hn : n = 0
    · subst hn
      refine ⟨D, ?_, ?_⟩
      · show (one0 0 - (0 : Rat)) * _ = _
        have : one0 0 = 1 := rfl
        rw [this, Int.pow_zero, Int.mul_one]
        grind
      · rw [if_pos rfl]
        simp
    · refine ⟨0, ?_, ?_⟩
      · show (one0 n - (0 : Rat)) * _ = _
        have : one0 n = 0 := if_neg hn
        rw [this]
        show ((0 : Rat) - 0) * _ = ((0 : Int) : Rat)
        have : ((0 : Int) : Rat) = 0 := rfl
        rw [this]
        grind
      · rw [if_neg hn]
        simp
  | m + 1, hm => by
    obtain ⟨w, h1, h2⟩ := ker_part K ih m (by omega)
    obtain ⟨z, g1, g2⟩ := ih (n - 1 - m) (by omega)
    obtain ⟨be, f1, f2⟩ := K.row m
    have hp : al ^ n = al ^ (n - 1 - m + 1) * al ^ m := by
      rw [← Int.pow_add]
      congr 1
      omega
    refine ⟨w - be * z * al ^ m, ?_, ?_⟩
    · have e : (sumR (m + 1) fun i => b (i + 1) * gK b (n - 1 - i)) = (sumR m fun i => b (i + 1) * gK b (n - 1 - i)) + b (m + 1) * gK b (n - 1 - m) := rfl
      rw [e, Rat.intCast_sub, Rat.intCast_mul, Rat.intCast_mul, Rat.intCast_mul, hp, Rat.intCast_mul]
      rw [Rat.intCast_mul, hp, Rat.intCast_mul] at h1
      generalize (sumR m fun i => b (i + 1) * gK b (n - 1 - i)) = S at *
      generalize one0 n = o at *
      generalize ((al ^ (n - 1 - m + 1) : Int) : Rat) = A at *
      generalize ((al ^ m : Int) : Rat) = B at *
      generalize b (m + 1) = x at *
      generalize gK b (n - 1 - m) = y at *
      grind
    · have k1 : (be * z * al ^ m).natAbs ≤ N * (D.natAbs * (N + T) ^ (n - 1 - m)) * T ^ m := by
        rw [Int.natAbs_mul, Int.natAbs_mul, Int.natAbs_pow]
        exact Nat.mul_le_mul (Nat.mul_le_mul f2 g2) (Nat.pow_le_pow_left K.aT m)
      have k2 : (w - be * z * al ^ m).natAbs ≤ w.natAbs + (be * z * al ^ m).natAbs := by omega
      have e1 : D.natAbs * (N + T) ^ (n - m) * T ^ m = N * (D.natAbs * (N + T) ^ (n - 1 - m)) * T ^ m + D.natAbs * (N + T) ^ (n - (m + 1)) * T ^ (m + 1) := by
        have e2 : n - m = (n - 1 - m) + 1 := by omega
        have e3 : n - (m + 1) = n - 1 - m := by omega
        rw [e2, e3, Nat.pow_succ, Nat.pow_succ]
        generalize (N + T) ^ (n - 1 - m) = X
        generalize T ^ m = Y
        grind
      omega
theorem ker_size {b : Nat → Rat} {D al : Int} {N T : Nat} (K : Kb b D al N T) : ∀ n, Fq (al ^ (n + 1)) (D.natAbs * (N + T) ^ n) (gK b n) := by
  intro n
  induction n using Nat.strongRecOn with
  | ind n ih =>
    obtain ⟨w, h1, h2⟩ := ker_part K ih n (Nat.le_refl _)
    refine ⟨w, ?_, ?_⟩
    · rw [gK_eq, Int.pow_succ, Rat.intCast_mul, ← K.top]
      rw [Rat.intCast_mul] at h1
      have := K.b0
      generalize (sumR n fun i => b (i + 1) * gK b (n - 1 - i)) = S at *
      generalize one0 n = o at *
      generalize ((al ^ n : Int) : Rat) = A at *
      grind
    · rw [Nat.sub_self, Nat.pow_zero, Nat.mul_one] at h2
      by_cases hn : n = 0
      · subst hn
        rw [if_pos rfl] at h2
        simp at h2 ⊢
        omega
      · rw [if_neg hn] at h2
        omega
theorem ker_sum {b : Nat → Rat} {D al : Int} {N T n m : Nat} (K : Kb b D al N T) (hm : m ≤ n) : Fq (D * al ^ n) (2 * (D.natAbs * (N + T) ^ n)) (one0 n - sumR m fun i => b (i + 1) * gK b (n - 1 - i)) := by
  obtain ⟨w, h1, h2⟩ := ker_part K (fun i _ => ker_size K i) m hm
  refine ⟨w, h1, ?_⟩
  by_cases hn : n = 0
  · subst hn
    rw [if_pos rfl] at h2
    simp at h2 ⊢
    omega
  · rw [if_neg hn] at h2
    omega
theorem pow_ne {a : Int} (h : a ≠ 0) : ∀ n : Nat, a ^ n ≠ 0
  | 0 => by rw [Int.pow_zero]; decide
  | n + 1 => by rw [Int.pow_succ]; exact Int.mul_ne_zero (pow_ne h n) h
/-- a row whose kernel may be worked out up to the place 60 -/
structure KBn (b : Nat → Rat) (Q : Nat) : Prop where
  b0 : b 0 ≠ 0
  row : ∀ i, Sz 100 (b i)
  num : ∀ n, n ≤ Q → Sz 1900 (gK b n)
  part : ∀ n m, n ≤ Q → m ≤ n → Sz 1900 (one0 n - sumR m fun i => b (i + 1) * gK b (n - 1 - i))
structure KBd (b : Nat → Rat) : Prop where
  b0 : b 0 ≠ 0
  row : ∀ i, Sz 60 (b i)
  num : ∀ n, n ≤ 60 → Sz 1900 (gK b n)
  part : ∀ n m, n ≤ 60 → m ≤ n → Sz 1900 (one0 n - sumR m fun i => b (i + 1) * gK b (n - 1 - i))
theorem Kb.kb {b : Nat → Rat} {D al : Int} {N T : Nat} (K : Kb b D al N T) (h1 : D.natAbs < 2 ^ 60) (h2 : N < 2 ^ 60) (h3 : T < 2 ^ 60) (h4 : 2 * (D.natAbs * (N + T) ^ 60) < 2 ^ 1900) (h5 : D.natAbs * T ^ 61 < 2 ^ 1900) : KBd b := by
  have ha : ∀ n, al ^ n ≠ 0 := fun n => pow_ne K.a0 n
  have t1 : 1 ≤ T := by have := K.aT; have := K.a0; omega
  have d1 : 1 ≤ D.natAbs := by have := K.d0; omega
  have hc : ∀ n, n ≤ 60 → (N + T) ^ n ≤ (N + T) ^ 60 := fun n hn => Nat.pow_le_pow_right (by omega) hn
  have ht : ∀ n, n ≤ 61 → (al ^ n).natAbs ≤ T ^ 61 := fun n hn => by
    rw [Int.natAbs_pow]
    exact Nat.le_trans (Nat.pow_le_pow_left K.aT n) (Nat.pow_le_pow_right t1 hn)
  refine ⟨K.b0, fun i => ?_, fun n hn => ?_, fun n m hn hm => ?_⟩
  · cases i with
    | zero =>
      exact Fq.sz (d := D) (M := T) ⟨al, K.top, K.aT⟩ K.d0 h1 h3
    | succ i => exact (K.row i).sz K.d0 h1 h2
  · refine (ker_size K n).sz (ha _) (Nat.lt_of_le_of_lt (ht _ (by omega)) (Nat.lt_of_le_of_lt ?_ h5)) (Nat.lt_of_le_of_lt ?_ h4)
    · exact Nat.le_mul_of_pos_left _ d1
    · have := Nat.mul_le_mul_left D.natAbs (hc n hn)
      omega
  · refine (ker_sum K hm).sz (Int.mul_ne_zero K.d0 (ha _)) ?_ (Nat.lt_of_le_of_lt (Nat.mul_le_mul_left 2 (Nat.mul_le_mul_left _ (hc n hn))) h4)
    rw [Int.natAbs_mul]
    exact Nat.lt_of_le_of_lt (Nat.mul_le_mul_left _ (ht n (by omega))) h5
end LS
set_option maxHeartbeats 1000000
/-! VKm: the package's product and quotient -/
namespace LS
open PySem L2
structure Kd (P : Prg) : Prop extends Kr P where
  f10 : P.fn 10 = some F10
theorem ratioWith {P : Prg} (K : Kd P) (k : Nat) {a b : Int} (hb : b ≠ 0) (hz : b.natAbs < 2 ^ 8000) : run P (k + 2) 10 [.int a, .int b] = some (frD (Rat.divInt a b), []) := by
  have g0 : Int.gcd a b ≠ 0 := fun z => hb (Int.gcd_eq_zero_iff.mp z).2
  have gl : (Int.gcd a b : Nat).log2 < 9000 := Nat.lt_trans (log_lt (by decide) (Nat.lt_of_le_of_lt (Nat.le_of_dvd (by omega) (Int.gcd_dvd_natAbs_right ..)) hz)) (by decide)
  by_cases hp : 0 < b
  · obtain ⟨e1, e2⟩ := fr_pos (a := a) hp
    refine run_at (fl := .rt (frD (Rat.divInt a b))) (e := [some (.int a), some (.int b), some (.int (Int.gcd a b : Int))]) K.f10 rfl ?_ rfl (.inl rfl)
    have n0 : (Int.gcd a b : Int) ≠ 0 := by omega
    simp only [F10, exL, exS, tst, ev, evL, evA, fillA, outA, lentA, g_at, c_gt, s_bl, divisor K.toKr k, asgT, decide_eq_true hp, if_true, o_fdiv n0 gl, e1, e2, Option.bind_some, Option.map_some, List.map_cons, List.map_nil, List.length_cons, List.length_nil, List.replicate, List.cons_append, List.nil_append, List.getElem?_cons_zero, List.getElem?_cons_succ, Option.join_some, Bool.false_and, Bool.false_eq_true, if_false, List.set_cons_zero, List.set_cons_succ]
    rfl
  · have hn : b < 0 := by omega
    obtain ⟨e1, e2⟩ := fr_neg (a := a) hn
    refine run_at (fl := .rt (frD (Rat.divInt a b))) (e := [some (.int a), some (.int b), some (.int (-(Int.gcd a b : Int)))]) K.f10 rfl ?_ rfl (.inl rfl)
    have n0 : (-(Int.gcd a b : Int)) ≠ 0 := by omega
    have gl2 : (-(Int.gcd a b : Int)).natAbs.log2 < 9000 := by rw [Int.natAbs_neg, Int.natAbs_natCast]; exact gl
    simp only [F10, exL, exS, tst, ev, evL, evA, fillA, outA, lentA, g_at, c_gt, s_bl, divisor K.toKr k, asgT, decide_eq_false hp, o_sub, o_fdiv n0 gl2, e1, e2, Option.bind_some, Option.map_some, List.map_cons, List.map_nil, List.length_cons, List.length_nil, List.replicate, List.cons_append, List.nil_append, List.getElem?_cons_zero, List.getElem?_cons_succ, Option.join_some, Bool.false_and, Bool.false_eq_true, if_false, List.set_cons_zero, List.set_cons_succ]
    rfl
theorem kitMul {P : Prg} (K : Kd P) (h3 : P.fn 13 = some F13) (k : Nat) {a b : Rat} {n m : Nat} (ha : Sz n a) (hb : Sz m b) (hn : n ≤ 3900) (hm : m ≤ 3900) : run P (k + 3) 13 [frD a, frD b] = some (frD (a * b), []) := by
  obtain ⟨s1, s2, _, _⟩ := sm_num ha hb hn hm
  have hz : ((a.den : Int) * (b.den : Int)).natAbs < 2 ^ 8000 := by
    rw [Int.natAbs_mul, Int.natAbs_natCast, Int.natAbs_natCast]
    refine Nat.lt_of_lt_of_le (Nat.mul_lt_mul'' ha.2 hb.2) ?_
    rw [← Nat.pow_add]
    exact Nat.pow_le_pow_right (by decide) (by omega)
  have hd : (a.den : Int) * (b.den : Int) ≠ 0 := by
    have := a.den_pos
    have := b.den_pos
    exact Int.mul_ne_zero (by omega) (by omega)
  have e := ratioWith K k (a := a.num * b.num) hd hz
  rw [div_mul] at e
  refine run_at (fl := .rt (frD (a * b))) (e := [some (frD a), some (frD b)]) h3 rfl ?_ rfl (.inl rfl)
  show exL (run P (k + 2)) P.gl F13.body [some (frD a), some (frD b)] = _
  unfold frD at e ⊢
  simp only [F13, exL, exS, ev, evA, fillA, outA, lentA, g_at, ixt0, ixt1, o_mul s1, o_mul s2, e, Option.bind_some, Option.map_some, List.getElem?_cons_zero, List.getElem?_cons_succ, Option.join_some, Bool.false_and, Bool.false_eq_true, if_false]
theorem kitDiv {P : Prg} (K : Kd P) (h3 : P.fn 14 = some F14) (k : Nat) {a b : Rat} {n m : Nat} (ha : Sz n a) (hb : Sz m b) (hn : n ≤ 3900) (hm : m ≤ 3900) (b0 : b ≠ 0) : run P (k + 3) 14 [frD a, frD b] = some (frD (a / b), []) := by
  obtain ⟨_, _, s1, s2⟩ := sm_num ha hb hn hm
  have bn : b.num ≠ 0 := fun z => b0 (Rat.num_eq_zero.mp z)
  have hz : ((a.den : Int) * b.num).natAbs < 2 ^ 8000 := by
    rw [Int.natAbs_mul, Int.natAbs_natCast]
    refine Nat.lt_of_lt_of_le (Nat.mul_lt_mul'' ha.2 hb.1) ?_
    rw [← Nat.pow_add]
    exact Nat.pow_le_pow_right (by decide) (by omega)
  have hd : (a.den : Int) * b.num ≠ 0 := by
    have := a.den_pos
    exact Int.mul_ne_zero (by omega) bn
  have e := ratioWith K k (a := a.num * b.den) hd hz
  rw [div_div a b b0] at e
  refine run_at (fl := .rt (frD (a / b))) (e := [some (frD a), some (frD b)]) h3 rfl ?_ rfl (.inl rfl)
  show exL (run P (k + 2)) P.gl F14.body [some (frD a), some (frD b)] = _
  unfold frD at e ⊢
  simp only [F14, exL, exS, ev, evA, fillA, outA, lentA, g_at, ixt0, ixt1, o_mul s1, o_mul s2, e, Option.bind_some, Option.map_some, List.getElem?_cons_zero, List.getElem?_cons_succ, Option.join_some, Bool.false_and, Bool.false_eq_true, if_false]
end LS
set_option maxHeartbeats 1000000
/-! WC: loops; differences of fractions; rows read by place. -/
namespace LS
open PySem L2
/-- a loop, turn by turn -/
theorem for_inv {body : EnD → Option (Fl × EnD)} {j : Nat} : ∀ {ds : List D} {St : Nat → Option D → EnD} {x : Option D}, (∀ i y d, (St i y).set j (some d) = St i (some d)) → (∀ i (h : i < ds.length), body (St i (some ds[i])) = some (.nx, St (i + 1) (some ds[i]))) → ∃ y, forL body (.n j) ds (St 0 x) = some (.nx, St ds.length y)
  | [], St, x, _, _ => ⟨x, by unfold forL; rfl⟩
  | d :: ds, St, x, hs, hb => by
    obtain ⟨y, hy⟩ := for_inv (body := body) (j := j) (ds := ds) (St := fun i => St (i + 1)) (x := some d) (fun i y d => hs (i + 1) y d) (fun i h => hb (i + 1) (by rw [List.length_cons]; omega))
    refine ⟨y, ?_⟩
    unfold forL
    have e : asgT (.n j) d (St 0 x) = some (St 0 (some d)) := by
      show some ((St 0 x).set j (some d)) = _
      rw [hs]
    rw [e]
    simp only [Option.bind_some]
    have h0 := hb 0 (by simp)
    rw [show (d :: ds)[0] = d from rfl] at h0
    rw [h0]
    simp only [Option.bind_some]
    exact hy
theorem rng_at {lo : Int} {n i : Nat} (h : i < (rng lo n).length) : (rng lo n)[i] = .int (lo + (i : Int)) := by
  have e : (rng lo n)[i]? = some (.int (lo + (i : Int))) := by
    have hi : i < n := by rw [rng_len] at h; exact h
    show ((List.range n).map fun i => D.int (lo + (i : Nat)))[i]? = _
    rw [List.getElem?_map, List.getElem?_range hi]
    rfl
  rw [List.getElem?_eq_getElem h] at e
  exact Option.some.inj e
theorem for_at {C : CallT} {G : Nat → Option D} {t : T} {it : I} {b : SL} {env e1 e2 : EnD} {ds : List D} (h : evI C G it env = some (ds, e1)) (h2 : forL (fun e => exL C G b e) t ds e1 = some (.nx, e2)) : exS C G (.for_ t it b) env = some (.nx, e2) := by
  simp only [exS]
  rw [h]
  simp only [Option.bind_some]
  exact h2
theorem own_at {C : CallT} {G : Nat → Option D} {i : Nat} {e : E} {env env' : EnD} {l : List D} (h : ev C G e env = some (.lst l, env')) : exS C G (.own i e) env = some (.nx, env'.set i (some (.lst l))) := by
  simp only [exS]
  rw [h]
  simp only [Option.bind_some]
theorem app_at {C : CallT} {G : Nat → Option D} {i : Nat} {e : E} {env env' : EnD} {l : List D} {d d0 : D} (h0 : getE env i = some d0) (h : ev C G e env = some (d, env')) (hl : getE env' i = some (.lst l)) (hz : l.length < 1000000) : exS C G (.app i e) env = some (.nx, env'.set i (some (.lst (l ++ [d])))) := by
  simp only [exS]
  rw [h0]
  simp only [Option.bind_some]
  rw [h]
  simp only [Option.bind_some]
  rw [hl]
  simp only [if_pos hz]
theorem div_sub (a b : Rat) : Rat.divInt (a.num * b.den - b.num * a.den) (a.den * b.den) = a - b := by
  rw [Rat.divInt_eq_div, Rat.intCast_sub, Rat.intCast_mul, Rat.intCast_mul, Rat.intCast_mul]
  have ha := as_div a
  have hb := as_div b
  have da := den_ne a
  have db := den_ne b
  generalize (a.num : Rat) = x at *
  generalize (b.num : Rat) = y at *
  generalize ((a.den : Int) : Rat) = u at *
  generalize ((b.den : Int) : Rat) = v at *
  grind
theorem kitSub {P : Prg} (K : Kd P) (h3 : P.fn 12 = some F12) (k : Nat) {a b : Rat} {n m : Nat} (ha : Sz n a) (hb : Sz m b) (hn : n ≤ 3900) (hm : m ≤ 3900) : run P (k + 3) 12 [frD a, frD b] = some (frD (a - b), []) := by
  obtain ⟨_, s2, s3, _⟩ := sm_num ha hb hn hm
  obtain ⟨_, _, s4, _⟩ := sm_num hb ha hm hn
  have hz : ((a.den : Int) * (b.den : Int)).natAbs < 2 ^ 8000 := by
    rw [Int.natAbs_mul, Int.natAbs_natCast, Int.natAbs_natCast]
    refine Nat.lt_of_lt_of_le (Nat.mul_lt_mul'' ha.2 hb.2) ?_
    rw [← Nat.pow_add]
    exact Nat.pow_le_pow_right (by decide) (by omega)
  have hd : (a.den : Int) * (b.den : Int) ≠ 0 := by
    have := a.den_pos
    have := b.den_pos
    exact Int.mul_ne_zero (by omega) (by omega)
  have e := ratioWith K k (a := a.num * b.den - b.num * a.den) hd hz
  rw [div_sub] at e
  refine run_at (fl := .rt (frD (a - b))) (e := [some (frD a), some (frD b)]) h3 rfl ?_ rfl (.inl rfl)
  show exL (run P (k + 2)) P.gl F12.body [some (frD a), some (frD b)] = _
  unfold frD at e ⊢
  simp only [F12, exL, exS, ev, evA, fillA, outA, lentA, g_at, ixt0, ixt1, o_mul s2, o_mul s3, o_mul s4, o_sub, e, Option.bind_some, Option.map_some, List.getElem?_cons_zero, List.getElem?_cons_succ, Option.join_some, Bool.false_and, Bool.false_eq_true, if_false]
theorem ixl_fr {l : List Rat} {z : Int} (h : 0 ≤ z) (h2 : z < l.length) : ixF (.lst (l.map frD)) (.int z) = some (frD (gt0 l z.toNat)) := by
  refine (at_in h (by rw [List.length_map]; exact h2)).trans ?_
  have : z.toNat < l.length := by omega
  rw [List.getElem?_map, List.getElem?_eq_getElem this, gt0_in this]
  rfl
theorem ixt_fr {l : List Rat} {z : Int} (h : 0 ≤ z) (h2 : z < l.length) : ixF (.tup (l.map frD)) (.int z) = some (frD (gt0 l z.toNat)) := ixl_fr h h2
theorem b_max2' {i j : Int} : biF .max2 [.int i, .int j] = some (.int (if j > i then j else i)) := rfl
theorem b_min2' {i j : Int} : biF .min2 [.int i, .int j] = some (.int (if j < i then j else i)) := rfl
theorem okR_of {z : Int} (h1 : -1000000 ≤ z) (h2 : z ≤ 1000000) : okR z = true := by
  have h1 : -(2 ^ 62) ≤ z := by omega
  have h2 : z < 2 ^ 62 := by omega
  unfold okR
  rw [Bool.and_eq_true]
  exact ⟨decide_eq_true h1, decide_eq_true h2⟩
theorem rng2_at {C : CallT} {G : Nat → Option D} {a b : E} {env e1 e2 : EnD} {lo hi : Int} (ha : ev C G a env = some (.int lo, e1)) (hb : ev C G b e1 = some (.int hi, e2)) (h1 : okR lo = true) (h2 : okR hi = true) : evI C G (.rng2 a b) env = some (rng lo (hi - lo).toNat, e2) := by
  simp only [evI]
  rw [ha]
  simp only [Option.bind_some]
  rw [hb]
  simp only [Option.bind_some]
  rw [h1, h2]
  rfl
end LS
set_option maxHeartbeats 2000000
/-! VX: bent things. -/
namespace LS
open PySem L2
theorem Vn.up {B B' : Nat} {v : D} (h : Vn B v) (hb : B ≤ B') : Vn B' v := by
  obtain ⟨a, m, c, e, h1, h2, h3⟩ := h
  exact ⟨a, m, c, e, h1, by omega, h3⟩
theorem c_tnil {l : List D} (hs : (D.tup l).shp = true) (l0 : 0 < l.length) : cmpF .eq (.tup l) (.tup []) = some (.bl false) := by
  have e : eqD (.tup l) (.tup []) = some false := by
    unfold eqD
    rw [hs, show (D.tup []).shp = true from rfl]
    cases l with
    | nil => simp at l0
    | cons x l => simp [D.py, D.pyL, PyData.eqv, PyData.eqvAll]
  show (eqX (.tup l) (.tup [])).map D.bl = _
  rw [eqX_of e]
  rfl
structure Lb (P : Prg) : Prop extends Lw0 P, Li0 P where
  f185 : P.fn 185 = some F185
  f174 : P.fn 174 = some F174
  f197 : P.fn 197 = some F197
  f198 : P.fn 198 = some F198
theorem o_tupS {l m : List D} (h1 : l.length ≤ 300) (h2 : m.length ≤ 300) : opF .add (.tup l) (.tup m) = some (.tup (l ++ m)) := by
  refine o_tup ?_
  have z : sizeLine = 16777216 := by decide
  omega
/-- the head of _law_bent: no plain thing, no fraction -/
theorem bent_leaf {P : Prg} (L : Lb P) (k : Nat) {B : Nat} {v : D} {q : Rat} {dp : Int} (hv : Vn B v) (hB : B < 1000000) (hq : Sz 7 q) (hd : dp ≠ 0) : ∃ (r v' : D), run P (k + 5) 198 [v, frD q, .int dp] = some (r, [v']) ∧ Vn (B + 20) v' ∧ r.any = true := by
  obtain ⟨r, v1, a1, a2, a3⟩ := lawNear L.toLw0 L.f185 L.f197 k hv hB hq
  refine ⟨r, v1, run_at (fl := .rt r) (e := [some v1, some (frD q), some (.int dp), none, none, none]) L.f198 rfl ?_ rfl (.inl rfl), a2.up (by omega), a3⟩
  show exL (run P (k + 4)) P.gl F198.body [some v, some (frD q), some (.int dp), none, none, none] = _
  have v1' : ev (run P (k + 4)) P.gl (.v 1) [some v, some (frD q), some (.int dp), none, none, none] = some (frD q, [some v, some (frD q), some (.int dp), none, none, none]) := v_ev rfl
  have v2' : ev (run P (k + 4)) P.gl (.v 2) [some v, some (frD q), some (.int dp), none, none, none] = some (.int dp, [some v, some (frD q), some (.int dp), none, none, none]) := v_ev rfl
  have hs : (frD q).shp = true := by
    unfold frD
    simp [D.shp, D.pure, D.pureL, D.py, D.pyL, SeqAt.shaped, PyData.canLay0, PyData.canLayAll0, PyData.depth, PyData.depthAll]
  have hf : fB (frD q) = true := by
    have hd : (0 : Int) < (q.den : Int) := by have := q.den_pos; omega
    have hg : Int.gcd q.num q.den = 1 := q.reduced
    show (decide ((0 : Int) < (q.den : Int)) && decide (Int.gcd q.num q.den = 1)) = true
    rw [decide_eq_true hd, decide_eq_true hg]
    rfl
  have tn : ev (run P (k + 4)) P.gl (.tup .nil) [some v, some (frD q), some (.int dp), none, none, none] = some (.tup [], [some v, some (frD q), some (.int dp), none, none, none]) := by simp only [ev, evL, Option.map_some]
  refine nx_at (ifs_no (or_b (p := false) (q := false) (not_b (isi_tst v1' (isi_t any_fr))) fun _ => or_b (p := false) (q := false) (cmp_tst v2' int_ev (by rw [c_eqi, decide_eq_false hd])) fun _ => cmp_tst v1' tn (c_tnil hs (by show 0 < 2; decide)))) (ifs_yes (e1 := [some v, some (frD q), some (.int dp), none, none, none]) ?_ (ret_at ?_))
  · have hh := call_tst v1' (lawIsF L.toLi0 (k + 2) (d := frD q) any_fr)
    rw [hf] at hh
    exact hh
  · simp only [ev, evA, fillA, outA, lentA, g_at, a1, Option.bind_some, Option.map_some, List.getElem?_cons_zero, List.getElem?_cons_succ, Option.join_some, Bool.false_and, Bool.false_eq_true, if_false, List.set_cons_zero]
theorem bent_step {P : Prg} (L : Lb P) (k W Z : Nat) (hZ : Z ≤ 990000) {B : Nat} {v : D} {l : List D} {dp : Int} (hv : Vn B v) (hB : B < Z) (hW : W < 1000) (l0 : 0 < l.length) (ll : l.length ≤ 100) (hs : (D.tup l).shp = true) (hne : fB (.tup l) = false) (ha : ∀ x ∈ l, x.any = true) (hd : dp ≠ 0)
    (hin : ∀ x ∈ l, ∀ (B' : Nat) (v' : D), Vn B' v' → B' < Z + 50 → ∃ r v2, run P (k + 4) 198 [v', x, .int (dp - 1)] = some (r, [v2]) ∧ Vn (B' + W) v2 ∧ r.any = true) : ∃ (r v' : D), run P (k + 5) 198 [v, .tup l, .int dp] = some (r, [v']) ∧ Vn (B + W + 20) v' ∧ r.any = true := by
  have hany : (D.tup l).any = true := any_mk (by omega) ha
  obtain ⟨i, v1, a1, a2, a3, a4⟩ := chip L.f169 (k + 3) (n := (l.length : Int)) hv (by omega) (by omega) (lt60 (by omega))
  obtain ⟨w, v2, b1, b2, b3, b4⟩ := chip L.f169 (k + 3) (n := 10) a2 (by decide) (by decide) (lt60 (by omega))
  have s1 : exS (run P (k + 4)) P.gl (.ifs (.or (.not (.isi "tuple" (.v 1))) (.or (.cmp .eq (.v 2) (.int 0)) (.cmp .eq (.v 1) (.tup .nil)))) (.cons (.ret (.call 174 (.io 0 .nil))) .nil) .nil) [some v, some (.tup l), some (.int dp), none, none, none] = some (.nx, [some v, some (.tup l), some (.int dp), none, none, none]) := by
    have v1' : ev (run P (k + 4)) P.gl (.v 1) [some v, some (.tup l), some (.int dp), none, none, none] = some (.tup l, [some v, some (.tup l), some (.int dp), none, none, none]) := v_ev rfl
    have v2' : ev (run P (k + 4)) P.gl (.v 2) [some v, some (.tup l), some (.int dp), none, none, none] = some (.int dp, [some v, some (.tup l), some (.int dp), none, none, none]) := v_ev rfl
    have tn : ev (run P (k + 4)) P.gl (.tup .nil) [some v, some (.tup l), some (.int dp), none, none, none] = some (.tup [], [some v, some (.tup l), some (.int dp), none, none, none]) := by simp only [ev, evL, Option.map_some]
    exact ifs_no (or_b (p := false) (q := false) (not_b (isi_tst v1' (isi_t hany))) fun _ => or_b (p := false) (q := false) (cmp_tst v2' int_ev (by rw [c_eqi, decide_eq_false hd])) fun _ => cmp_tst v1' tn (c_tnil hs l0))
  have s2 : exS (run P (k + 4)) P.gl (.ifs (.call 194 (.val (.v 1) .nil)) (.cons (.ret (.call 197 (.io 0 (.val (.v 1) .nil)))) .nil) .nil) [some v, some (.tup l), some (.int dp), none, none, none] = some (.nx, [some v, some (.tup l), some (.int dp), none, none, none]) := by
    have hh := call_tst (v_ev (C := run P (k + 4)) (G := P.gl) (i := 1) (env := [some v, some (.tup l), some (.int dp), none, none, none]) rfl) (lawIsF L.toLi0 (k + 2) (d := .tup l) hany)
    rw [hne] at hh
    exact ifs_no hh
  let E2 : EnD := [some v2, some (.tup l), some (.int dp), none, some (.int i), some (.int w)]
  have s3 : exS (run P (k + 4)) P.gl (.par [(4, false), (5, false)] (.cons (.call 169 (.io 0 (.val (.bi .len (.cons (.v 1) .nil)) .nil))) (.cons (.call 169 (.io 0 (.val (.int 10) .nil))) .nil))) [some v, some (.tup l), some (.int dp), none, none, none] = some (.nx, E2) := by
    simp only [exS, ev, evL, evA, fillA, outA, lentA, g_at, b_lent, a1, b1, parF, Option.bind_some, Option.map_some, List.getElem?_cons_zero, List.getElem?_cons_succ, Option.join_some, Bool.false_and, Bool.false_eq_true, if_false, List.set_cons_zero, List.set_cons_succ]
    rfl
  have w5 : ev (run P (k + 4)) P.gl (.v 5) E2 = some (.int w, E2) := v_ev rfl
  obtain ⟨x, hx⟩ : ∃ x, l[i.toNat]? = some x := ⟨l[i.toNat]'(by omega), by simp [show i.toNat < l.length by omega]⟩
  have hi : ixF (.tup l) (.int i) = some x := (at_in a3 a4).trans hx
  have xm : x ∈ l := List.mem_of_getElem? hx
  have c1 : (cutD l none (some i)).length ≤ 100 := Nat.le_trans cut_le ll
  have c2 : (cutD l (some (i + 1)) none).length ≤ 100 := Nat.le_trans cut_le ll
  have c3 : (cutD l none (some (i + 1))).length ≤ 100 := Nat.le_trans cut_le ll
  have c4 : (cutD l (some i) none).length ≤ 100 := Nat.le_trans cut_le ll
  have fin : ∀ r v' e, exL (run P (k + 4)) P.gl F198.body [some v, some (.tup l), some (.int dp), none, none, none] = some (.rt r, some v' :: some (.tup l) :: some (.int dp) :: e) → Vn (B + W + 20) v' → r.any = true → ∃ (r v' : D), run P (k + 5) 198 [v, .tup l, .int dp] = some (r, [v']) ∧ Vn (B + W + 20) v' ∧ r.any = true := fun r v' e h h1 h2 => ⟨r, v', run_at (fl := .rt r) (e := some v' :: some (.tup l) :: some (.int dp) :: e) L.f198 rfl h rfl (.inl rfl), h1, h2⟩
  have mid : ∀ (d : D), d.any = true → ∀ (lo hi2 : Option Int), (D.tup (cutD l none lo ++ [d] ++ cutD l hi2 none)).any = true := fun d hd lo hi2 => any_mk (by
    rw [List.length_append, List.length_append, List.length_singleton]
    have := cut_le (l := l) (lo := none) (hi := lo)
    have := cut_le (l := l) (lo := hi2) (hi := none)
    omega) fun y hy => by
    rcases List.mem_append.mp hy with hy | hy
    · rcases List.mem_append.mp hy with hy | hy
      · exact ha y (cut_mem hy)
      · rw [List.mem_singleton.mp hy]; exact hd
    · exact ha y (cut_mem hy)
  have two : ∀ (lo hi2 : Option Int), (D.tup (cutD l none lo ++ cutD l hi2 none)).any = true := fun lo hi2 => any_mk (by
    rw [List.length_append]
    have := cut_le (l := l) (lo := none) (hi := lo)
    have := cut_le (l := l) (lo := hi2) (hi := none)
    omega) fun y hy => by
    rcases List.mem_append.mp hy with hy | hy
    · exact ha y (cut_mem hy)
    · exact ha y (cut_mem hy)
  by_cases h5 : 4 < w
  · obtain ⟨r, v3, d1, d2, d3⟩ := hin x xm _ v2 b2 (by omega)
    have k1 : (cutD l none (some i) ++ [r]).length ≤ 101 := by rw [List.length_append, List.length_singleton]; omega
    refine fin (.tup (cutD l none (some i) ++ [r] ++ cutD l (some (i + 1)) none)) v3 [none, some (.int i), some (.int w)] ?_ (d2.up (by omega)) (mid r d3 _ _)
    refine nx_at s1 (nx_at s2 (nx_at s3 (ifs_yes (e1 := E2) (cmp_tst w5 int_ev (by rw [c_gt, decide_eq_true h5])) (ret_at ?_))))
    have o1 := o_tupS (l := cutD l none (some i)) (m := [r]) (by omega) (by simp)
    have o2 := o_tupS (l := cutD l none (some i) ++ [r]) (m := cutD l (some (i + 1)) none) (by omega) (by omega)
    simp only [E2, ev, evL, evO, evA, fillA, outA, lentA, g_at, sl_tup, hi, o_sub, o_add, d1, o1, o2, Option.bind_some, Option.map_some, List.getElem?_cons_zero, List.getElem?_cons_succ, Option.join_some, Bool.false_and, Bool.false_eq_true, if_false, List.set_cons_zero]
  · obtain ⟨od, v3, d1, d2, d3⟩ := lawOdd L.toLw0 L.f174 (k + 1) b2 (by omega)
    obtain ⟨aq, v4, e1, e2, e3⟩ := lawAny L.f169 L.f170 L.f171 L.f172 L.f173 (k + 1) d2 (lt50 (by omega))
    obtain ⟨y, hy⟩ : ∃ y, l[(0 : Int).toNat]? = some y := ⟨l[0]'l0, by simp [l0]⟩
    have hy0 : ixF (.tup l) (.int 0) = some y := (at_in (by decide) (by omega)).trans hy
    have ym : y ∈ l := List.mem_of_getElem? hy
    obtain ⟨oo, v5, f1, f2, f3⟩ := choice L.f169 L.f170 (k + 2) (l := [od, frD aq, y]) e2 (by simp) (by show 3 < 1000000; decide) (lt60 (by omega))
    have oa : oo.any = true := by
      simp only [List.mem_cons, List.not_mem_nil, or_false] at f3
      rcases f3 with rfl | rfl | rfl
      · exact d3
      · exact any_fr
      · exact ha _ ym
    let E3 : EnD := [some v5, some (.tup l), some (.int dp), some oo, some (.int i), some (.int w)]
    have s4 : exS (run P (k + 4)) P.gl (.asg (.n 3) (.call 170 (.io 0 (.val (.lst (.cons (.call 174 (.io 0 .nil)) (.cons (.call 173 (.io 0 .nil)) (.cons (.ix (.v 1) (.int 0)) .nil)))) .nil)))) E2 = some (.nx, E3) := by
      refine asg_at (d := oo) (env' := [some v5, some (.tup l), some (.int dp), none, some (.int i), some (.int w)]) ?_ rfl
      simp only [E2, ev, evL, evA, fillA, outA, lentA, g_at, d1, e1, hy0, f1, Option.bind_some, Option.map_some, List.getElem?_cons_zero, List.getElem?_cons_succ, Option.join_some, Bool.false_and, Bool.false_eq_true, if_false, List.set_cons_zero]
    have u5 : ev (run P (k + 4)) P.gl (.v 5) E3 = some (.int w, E3) := v_ev rfl
    have fv : Vn (B + W + 20) v5 := f2.up (by omega)
    have o1 := o_tupS (l := cutD l none (some i)) (m := cutD l (some (i + 1)) none) (by omega) (by omega)
    have o2 := o_tupS (l := cutD l none (some (i + 1))) (m := cutD l (some i) none) (by omega) (by omega)
    have o3 := o_tupS (l := cutD l none (some i)) (m := [oo]) (by omega) (by simp)
    have o4 := o_tupS (l := cutD l none (some i) ++ [oo]) (m := cutD l (some (i + 1)) none) (by rw [List.length_append, List.length_singleton]; omega) (by omega)
    have o5 := o_tupS (l := l) (m := [oo]) (by omega) (by simp)
    by_cases g0 : w = 0
    · refine fin (.tup (cutD l none (some i) ++ cutD l (some (i + 1)) none)) v5 [some oo, some (.int i), some (.int w)] ?_ fv (two _ _)
      refine nx_at s1 (nx_at s2 (nx_at s3 (nx_at (ifs_no (cmp_tst w5 int_ev (by rw [c_gt, decide_eq_false h5]))) (nx_at s4 (ifs_yes (e1 := E3) (cmp_tst u5 int_ev (by rw [c_eqi, decide_eq_true g0])) (ret_at ?_))))))
      simp only [E3, ev, evL, evO, g_at, sl_tup, o_add, o1, Option.bind_some, Option.map_some, List.getElem?_cons_zero, List.getElem?_cons_succ, Option.join_some]
    · by_cases g1 : w = 1
      · refine fin (.tup (cutD l none (some (i + 1)) ++ cutD l (some i) none)) v5 [some oo, some (.int i), some (.int w)] ?_ fv (two _ _)
        refine nx_at s1 (nx_at s2 (nx_at s3 (nx_at (ifs_no (cmp_tst w5 int_ev (by rw [c_gt, decide_eq_false h5]))) (nx_at s4 (nx_at (ifs_no (cmp_tst u5 int_ev (by rw [c_eqi, decide_eq_false g0]))) (ifs_yes (e1 := E3) (cmp_tst u5 int_ev (by rw [c_eqi, decide_eq_true g1])) (ret_at ?_)))))))
        simp only [E3, ev, evL, evO, g_at, sl_tup, o_add, o2, Option.bind_some, Option.map_some, List.getElem?_cons_zero, List.getElem?_cons_succ, Option.join_some]
      · by_cases g2 : w = 2
        · refine fin (.tup (cutD l none (some i) ++ [oo] ++ cutD l (some (i + 1)) none)) v5 [some oo, some (.int i), some (.int w)] ?_ fv (mid oo oa _ _)
          refine nx_at s1 (nx_at s2 (nx_at s3 (nx_at (ifs_no (cmp_tst w5 int_ev (by rw [c_gt, decide_eq_false h5]))) (nx_at s4 (nx_at (ifs_no (cmp_tst u5 int_ev (by rw [c_eqi, decide_eq_false g0]))) (nx_at (ifs_no (cmp_tst u5 int_ev (by rw [c_eqi, decide_eq_false g1]))) (ifs_yes (e1 := E3) (cmp_tst u5 int_ev (by rw [c_eqi, decide_eq_true g2])) (ret_at ?_))))))))
          simp only [E3, ev, evL, evO, g_at, sl_tup, o_add, o3, o4, Option.bind_some, Option.map_some, List.getElem?_cons_zero, List.getElem?_cons_succ, Option.join_some]
        · by_cases g3 : w = 3
          · refine fin (.tup (l ++ [oo])) v5 [some oo, some (.int i), some (.int w)] ?_ fv (any_mk (by rw [List.length_append, List.length_singleton]; omega) fun y hy => by
              rcases List.mem_append.mp hy with hy | hy
              · exact ha y hy
              · rw [List.mem_singleton.mp hy]; exact oa)
            refine nx_at s1 (nx_at s2 (nx_at s3 (nx_at (ifs_no (cmp_tst w5 int_ev (by rw [c_gt, decide_eq_false h5]))) (nx_at s4 (nx_at (ifs_no (cmp_tst u5 int_ev (by rw [c_eqi, decide_eq_false g0]))) (nx_at (ifs_no (cmp_tst u5 int_ev (by rw [c_eqi, decide_eq_false g1]))) (nx_at (ifs_no (cmp_tst u5 int_ev (by rw [c_eqi, decide_eq_false g2]))) (ret_at ?_))))))))
            have tt := cmp_tst u5 (int_ev (i := 3)) (o := .eq) (p := true) (by rw [c_eqi, decide_eq_true g3])
            simp only [ev]
            rw [tt]
            simp only [E3, ev, evL, g_at, o5, Option.bind_some, Option.map_some, if_true, List.getElem?_cons_zero, List.getElem?_cons_succ, Option.join_some]
          · refine fin (.lst l) v5 [some oo, some (.int i), some (.int w)] ?_ fv (by simp [D.any])
            refine nx_at s1 (nx_at s2 (nx_at s3 (nx_at (ifs_no (cmp_tst w5 int_ev (by rw [c_gt, decide_eq_false h5]))) (nx_at s4 (nx_at (ifs_no (cmp_tst u5 int_ev (by rw [c_eqi, decide_eq_false g0]))) (nx_at (ifs_no (cmp_tst u5 int_ev (by rw [c_eqi, decide_eq_false g1]))) (nx_at (ifs_no (cmp_tst u5 int_ev (by rw [c_eqi, decide_eq_false g2]))) (ret_at ?_))))))))
            have tt := cmp_tst u5 (int_ev (i := 3)) (o := .eq) (p := false) (by rw [c_eqi, decide_eq_false g3])
            simp only [ev]
            rw [tt]
            simp only [E3, ev, evL, g_at, b_listt, Option.bind_some, Option.map_some, Bool.false_eq_true, if_false, List.getElem?_cons_zero, List.getElem?_cons_succ, Option.join_some]
end LS
set_option maxHeartbeats 1000000
/-! WD: the package's kernels. -/
namespace LS
open PySem L2
theorem for_rel {body : EnD → Option (Fl × EnD)} {j : Nat} : ∀ {ds : List D} {I : Nat → EnD → Prop} {env : EnD}, I 0 env → (∀ i (h : i < ds.length) env, I i env → ∃ env', body (env.set j (some ds[i])) = some (.nx, env') ∧ I (i + 1) env') → ∃ env', forL body (.n j) ds env = some (.nx, env') ∧ I ds.length env'
  | [], I, env, h0, _ => ⟨env, by unfold forL; rfl, h0⟩
  | d :: ds, I, env, h0, hb => by
    obtain ⟨e1, h1, h2⟩ := hb 0 (by simp) env h0
    obtain ⟨e2, h3, h4⟩ := for_rel (body := body) (j := j) (ds := ds) (I := fun i => I (i + 1)) (env := e1) h2 (fun i h env hi => hb (i + 1) (by rw [List.length_cons]; omega) env hi)
    refine ⟨e2, ?_, h4⟩
    unfold forL
    have e : asgT (.n j) d env = some (env.set j (some d)) := rfl
    rw [e]
    simp only [Option.bind_some]
    rw [show (d :: ds)[0] = d from rfl] at h1
    rw [h1]
    simp only [Option.bind_some]
    exact h3
structure Kk (P : Prg) : Prop extends Kd P where
  f3 : P.fn 3 = some F3
  f12 : P.fn 12 = some F12
  f13 : P.fn 13 = some F13
  f14 : P.fn 14 = some F14
  f25 : P.fn 25 = some F25
  f61 : P.fn 61 = some F61
  f62 : P.fn 62 = some F62
  f69 : P.fn 69 = some F69
  f76 : P.fn 76 = some F76
  f77 : P.fn 77 = some F77
  f89 : P.fn 89 = some F89
  g0 : P.gl 0 = some (frD 0)
  g1 : P.gl 1 = some (frD 1)
  g5 : P.gl 5 = some (.int 8)
  g8 : P.gl 8 = some (.int 400)
theorem many_steps {P : Prg} (h : P.fn 62 = some F62) (k : Nat) {as bs : List Rat} : run P (k + 1) 62 [ruD as bs] = some (.int ((as.length : Int) - 1), []) := by
  refine run_at (fl := .rt (.int ((as.length : Int) - 1))) (e := [some (ruD as bs)]) h rfl ?_ rfl (.inl rfl)
  show exL (run P k) P.gl F62.body [some (ruD as bs)] = _
  refine ret_at ?_
  simp only [ev, evL, g_at, ix_r0, b_lent, o_sub, List.length_map, Option.bind_some, Option.map_some, List.getElem?_cons_zero, Option.join_some]
abbrev knI : SL := .cons (.asg (.n 5) (.call 12 (.val (.v 5) (.val (.call 13 (.val (.ix (.v 3) (.v 6)) (.val (.ix (.v 4) (.op .sub (.v 2) (.v 6))) .nil))) .nil)))) .nil
abbrev knB : SL := .cons (.asg (.n 5) (.ife (.cmp .eq (.v 2) (.int 0)) (.g 1) (.g 0))) (.cons (.for_ (.n 6) (.rng2 (.int 1) (.op .add (.bi .min2 (.cons (.v 2) (.cons (.call 62 (.val (.v 0) .nil)) .nil))) (.int 1))) knI) (.cons (.app 4 (.call 14 (.val (.v 5) (.val (.ix (.v 3) (.int 0)) .nil)))) .nil))
theorem rev_frs {l : List Rat} : revF (.tup (l.map frD)) = some (.tup (l.reverse.map frD)) := by
  show some (D.tup (l.map frD).reverse) = _
  rw [List.map_reverse]
theorem kernelOfN {P : Prg} (K : Kk P) (k : Nat) {as bs : List Rat} (hl : 2 ≤ as.length) (hl9 : as.length ≤ 100) {Q : Nat} (hQ : Q ≤ 60) (B : KBn (gt0 as.reverse) Q) {N : Nat} (hN : N ≤ Q) : run P (k + 4) 69 [ruD as bs, .int (N : Int)] = some (.lst ((ker (gt0 as.reverse) (N + 1)).map frD), []) := by
  obtain ⟨b, hb⟩ : ∃ b, b = gt0 as.reverse := ⟨_, rfl⟩
  rw [← hb] at B ⊢
  have hlr : as.reverse.length = as.length := List.length_reverse
  let R : D := ruD as bs
  let Bk : D := .tup (as.reverse.map frD)
  have turn : ∀ n : Nat, n ≤ Q → ∀ y5 y6 : Option D, ∃ y6', exL (run P (k + 3)) P.gl knB [some R, some (.int (N : Int)), some (.int (n : Int)), some Bk, some (.lst ((ker b n).map frD)), y5, y6] = some (.nx, [some R, some (.int (N : Int)), some (.int (n : Int)), some Bk, some (.lst ((ker b (n + 1)).map frD)), some (frD (one0 n - sumR n fun i => b (i + 1) * gK b (n - 1 - i))), y6']) := by
    intro n hn y5 y6
    let m := min n (as.length - 1)
    let St : Nat → Option D → EnD := fun i x => [some R, some (.int (N : Int)), some (.int (n : Int)), some Bk, some (.lst ((ker b n).map frD)), some (frD (one0 n - sumR i fun i => b (i + 1) * gK b (n - 1 - i))), x]
    have h1 : exS (run P (k + 3)) P.gl (.asg (.n 5) (.ife (.cmp .eq (.v 2) (.int 0)) (.g 1) (.g 0))) [some R, some (.int (N : Int)), some (.int (n : Int)), some Bk, some (.lst ((ker b n).map frD)), y5, y6] = some (.nx, St 0 y6) := by
      have e0 : one0 n - (0 : Rat) = one0 n := by grind
      refine asg_at (d := frD (one0 n)) (env' := [some R, some (.int (N : Int)), some (.int (n : Int)), some Bk, some (.lst ((ker b n).map frD)), y5, y6]) ?_ ?_
      · by_cases z : n = 0
        · subst z
          have c : cmpF .eq (.int ((0 : Nat) : Int)) (.int 0) = some (.bl true) := by rw [c_eqi]; rfl
          have e : one0 0 = 1 := rfl
          rw [e]
          simp only [ev, tst, g_at, c, s_bl, K.g1, Option.bind_some, Option.map_some, List.getElem?_cons_zero, List.getElem?_cons_succ, Option.join_some, if_true]
        · have c : cmpF .eq (.int (n : Int)) (.int 0) = some (.bl false) := by rw [c_eqi, decide_eq_false (by omega)]
          have e : one0 n = 0 := if_neg z
          rw [e]
          simp only [ev, tst, g_at, c, s_bl, K.g0, Option.bind_some, Option.map_some, List.getElem?_cons_zero, List.getElem?_cons_succ, Option.join_some, Bool.false_eq_true, if_false]
      · show some _ = some _
        simp only [St, sumR, e0, List.set_cons_zero, List.set_cons_succ]
    have ml : m ≤ n ∧ m + 1 ≤ as.length := by omega
    have hI : evI (run P (k + 3)) P.gl (.rng2 (.int 1) (.op .add (.bi .min2 (.cons (.v 2) (.cons (.call 62 (.val (.v 0) .nil)) .nil))) (.int 1))) (St 0 y6) = some (rng 1 m, St 0 y6) := by
      have hm : (if ((as.length : Int) - 1) < (n : Int) then ((as.length : Int) - 1) else (n : Int)) = (m : Int) := by
        by_cases z : ((as.length : Int) - 1) < (n : Int)
        · rw [if_pos z]; omega
        · rw [if_neg z]; omega
      have e := rng2_at (C := run P (k + 3)) (G := P.gl) (a := .int 1) (b := .op .add (.bi .min2 (.cons (.v 2) (.cons (.call 62 (.val (.v 0) .nil)) .nil))) (.int 1)) (env := St 0 y6) (e1 := St 0 y6) (e2 := St 0 y6) (lo := 1) (hi := (m : Int) + 1) int_ev (by
        simp only [St, ev, evL, evA, fillA, outA, lentA, g_at, R, many_steps K.f62 (k + 2), b_min2', hm, o_add, Option.bind_some, Option.map_some, List.getElem?_cons_zero, List.getElem?_cons_succ, Option.join_some, Bool.false_and, Bool.false_eq_true, if_false]) (by decide) (okR_of (by omega) (by omega))
      rw [e]
      have : (((m : Int) + 1) - 1).toNat = m := by omega
      rw [this]
    obtain ⟨y, hy⟩ := for_inv (body := fun e => exL (run P (k + 3)) P.gl knI e) (j := 6) (ds := rng 1 m) (St := St) (x := y6) (fun i y d => rfl) (fun i h => by
      rw [rng_at h]
      have hi : i < m := by rw [rng_len] at h; exact h
      have x1 : ixF Bk (.int (1 + (i : Int))) = some (frD (b (i + 1))) := by
        have := ixt_fr (l := as.reverse) (z := 1 + (i : Int)) (by omega) (by rw [hlr]; omega)
        rw [this]
        have : (1 + (i : Int)).toNat = i + 1 := by omega
        rw [this, hb]
      have x2 : ixF (.lst ((ker b n).map frD)) (.int ((n : Int) - (1 + (i : Int)))) = some (frD (gK b (n - 1 - i))) := by
        have := ixl_fr (l := ker b n) (z := (n : Int) - (1 + (i : Int))) (by omega) (by rw [ker_len]; omega)
        rw [this]
        have : ((n : Int) - (1 + (i : Int))).toNat = n - 1 - i := by omega
        rw [this, ker_pre b (by omega)]
      have sp : Sz (100 + 1900) (b (i + 1) * gK b (n - 1 - i)) := sz_mul (B.row (i + 1)) (B.num (n - 1 - i) (by omega))
      have p1 := kitMul K.toKd K.f13 k (B.row (i + 1)) (B.num (n - 1 - i) (by omega)) (by decide) (by decide)
      have p2 := kitSub K.toKd K.f12 k (B.part n i hn (by omega)) sp (by decide) (by decide)
      have e : (one0 n - sumR (i + 1) fun i => b (i + 1) * gK b (n - 1 - i)) = (one0 n - sumR i fun i => b (i + 1) * gK b (n - 1 - i)) - b (i + 1) * gK b (n - 1 - i) := by
        have : (sumR (i + 1) fun i => b (i + 1) * gK b (n - 1 - i)) = (sumR i fun i => b (i + 1) * gK b (n - 1 - i)) + b (i + 1) * gK b (n - 1 - i) := rfl
        rw [this]
        grind
      refine nx_at (env' := St (i + 1) (some (.int (1 + (i : Int))))) (asg_at (d := frD (one0 n - sumR (i + 1) fun i => b (i + 1) * gK b (n - 1 - i))) (env' := St i (some (.int (1 + (i : Int))))) ?_ rfl) (by simp only [exL])
      rw [e]
      simp only [St, ev, evA, fillA, outA, lentA, g_at, x1, o_sub, x2, p1, p2, Option.bind_some, Option.map_some, List.getElem?_cons_zero, List.getElem?_cons_succ, Option.join_some, Bool.false_and, Bool.false_eq_true, if_false])
    rw [rng_len] at hy
    have ecut : (sumR m fun i => b (i + 1) * gK b (n - 1 - i)) = sumR n fun i => b (i + 1) * gK b (n - 1 - i) := by
      refine (sumR_cut ml.1 fun i h1 h2 => ?_).symm
      have : b (i + 1) = 0 := by rw [hb]; exact gt0_out (by rw [hlr]; omega)
      rw [this]
      grind
    have es : St m y = [some R, some (.int (N : Int)), some (.int (n : Int)), some Bk, some (.lst ((ker b n).map frD)), some (frD (one0 n - sumR n fun i => b (i + 1) * gK b (n - 1 - i))), y] := by
      simp only [St, ecut]
    rw [es] at hy
    have x0 : ixF Bk (.int 0) = some (frD (b 0)) := by rw [hb]; exact ixt_fr (l := as.reverse) (z := 0) (by decide) (by rw [hlr]; omega)
    have p3 := kitDiv K.toKd K.f14 k (B.part n n hn (Nat.le_refl _)) (B.row 0) (by decide) (by decide) B.b0
    rw [← gK_eq] at p3
    have ek : ker b (n + 1) = ker b n ++ [gK b n] := by
      rw [ker_map, ker_map, List.range_succ, List.map_append]
      rfl
    refine ⟨y, nx_at h1 (nx_at (for_at hI hy) (nx_at (app_at (l := (ker b n).map frD) (d := frD (gK b n)) (env' := [some R, some (.int (N : Int)), some (.int (n : Int)), some Bk, some (.lst ((ker b n).map frD)), some (frD (one0 n - sumR n fun i => b (i + 1) * gK b (n - 1 - i))), y]) rfl ?_ rfl (by rw [List.length_map, ker_len]; omega)) ?_))⟩
    · simp only [ev, evA, fillA, outA, lentA, g_at, x0, p3, Option.bind_some, Option.map_some, List.getElem?_cons_zero, List.getElem?_cons_succ, Option.join_some, Bool.false_and, Bool.false_eq_true, if_false]
    · simp only [exL]
      rw [ek, map_snoc]
      rfl
  obtain ⟨e', h1, x, h5, h6, rfl⟩ := for_rel (body := fun e => exL (run P (k + 3)) P.gl knB e) (j := 2) (ds := rng 0 (N + 1)) (I := fun i env => ∃ x y5 y6, env = [some R, some (.int (N : Int)), x, some Bk, some (.lst ((ker b i).map frD)), y5, y6]) (env := [some R, some (.int (N : Int)), none, some Bk, some (.lst []), none, none]) ⟨none, none, none, rfl⟩ (fun i h env he => by
    obtain ⟨x, y5, y6, rfl⟩ := he
    rw [rng_at h]
    rw [rng_len] at h
    obtain ⟨y6', ht⟩ := turn i (by omega) y5 y6
    have : (0 + (i : Int)) = (i : Int) := by omega
    rw [this]
    exact ⟨_, ht, _, _, _, rfl⟩)
  rw [rng_len] at h1
  refine run_at (fl := .rt (.lst ((ker b (N + 1)).map frD))) (e := [some R, some (.int (N : Int)), x, some Bk, some (.lst ((ker b (N + 1)).map frD)), h5, h6]) K.f69 rfl ?_ rfl (.inr ⟨_, rfl⟩)
  show exL (run P (k + 3)) P.gl F69.body [some R, some (.int (N : Int)), none, none, none, none, none] = _
  refine nx_at (env' := [some R, some (.int (N : Int)), none, some Bk, some (.lst []), none, none]) ?_ (nx_at (for_at (e1 := [some R, some (.int (N : Int)), none, some Bk, some (.lst []), none, none]) (rng1_at (n := N + 1) ?_ (by omega)) h1) (retO_at rfl))
  · simp only [exS, ev, evL, g_at, R, ix_r0, rev_frs, parF, isLstD, Option.bind_some, Option.map_some, List.getElem?_cons_zero, List.getElem?_cons_succ, Option.join_some, Bool.not_true, Bool.and_false, Bool.false_and, Bool.false_eq_true, if_false, List.set_cons_zero, List.set_cons_succ]
    rfl
  · simp only [ev, g_at, o_add, Option.bind_some, Option.map_some, List.getElem?_cons_zero, List.getElem?_cons_succ, Option.join_some]
    rfl
theorem KBd.n {b : Nat → Rat} (B : KBd b) : KBn b 60 := ⟨B.b0, fun i => ⟨Nat.lt_of_lt_of_le (B.row i).1 (Nat.pow_le_pow_right (by decide) (by decide)), Nat.lt_of_lt_of_le (B.row i).2 (Nat.pow_le_pow_right (by decide) (by decide))⟩, B.num, B.part⟩
theorem kernelOf {P : Prg} (K : Kk P) (k : Nat) {as bs : List Rat} (hl : 2 ≤ as.length) (hl9 : as.length ≤ 100) (B : KBd (gt0 as.reverse)) {N : Nat} (hN : N ≤ 60) : run P (k + 4) 69 [ruD as bs, .int (N : Int)] = some (.lst ((ker (gt0 as.reverse) (N + 1)).map frD), []) := kernelOfN K k hl hl9 (by decide) B.n hN
end LS
set_option maxHeartbeats 1000000
/-! VEm: the law's product -/
namespace LS
open PySem L2
theorem lawMul {P : Prg} (h1 : P.fn 171 = some F171) (h2 : P.fn 172 = some F172) (h3 : P.fn 187 = some F187) (k : Nat) {a b : Rat} {n m : Nat} (ha : Sz n a) (hb : Sz m b) (hn : n ≤ 3900) (hm : m ≤ 3900) : run P (k + 3) 187 [frD a, frD b] = some (frD (a * b), []) := by
  obtain ⟨s1, s2, _, _⟩ := sm_num ha hb hn hm
  have hz : ((a.den : Int) * (b.den : Int)).natAbs < 2 ^ 8000 := by
    rw [Int.natAbs_mul, Int.natAbs_natCast, Int.natAbs_natCast]
    refine Nat.lt_of_lt_of_le (Nat.mul_lt_mul'' ha.2 hb.2) ?_
    rw [← Nat.pow_add]
    exact Nat.pow_le_pow_right (by decide) (by omega)
  have hd : (a.den : Int) * (b.den : Int) ≠ 0 := by
    have := a.den_pos
    have := b.den_pos
    exact Int.mul_ne_zero (by omega) (by omega)
  have e := lawF h1 h2 k (a := a.num * b.num) hd hz
  rw [div_mul] at e
  refine run_at (fl := .rt (frD (a * b))) (e := [some (frD a), some (frD b)]) h3 rfl ?_ rfl (.inl rfl)
  show exL (run P (k + 2)) P.gl F187.body [some (frD a), some (frD b)] = _
  unfold frD at e ⊢
  simp only [F187, exL, exS, ev, evA, fillA, outA, lentA, g_at, ixt0, ixt1, o_mul s1, o_mul s2, e, Option.bind_some, Option.map_some, List.getElem?_cons_zero, List.getElem?_cons_succ, Option.join_some, Bool.false_and, Bool.false_eq_true, if_false]
end LS
set_option maxHeartbeats 1000000
/-! WE: kernel, checked; the law's sums and cut products. -/
namespace LS
open PySem L2
/-- a rule -/
structure Rv (as bs : List Rat) : Prop where
  lo : 2 ≤ as.length
  hi : as.length ≤ 9
  same : bs.length = as.length
  top : ∃ m x, as = m ++ [x] ∧ x ≠ 0
theorem fB_fr {q : Rat} : fB (frD q) = true := by
  have hd : (0 : Int) < (q.den : Int) := by have := q.den_pos; omega
  have hg : Int.gcd q.num q.den = 1 := q.reduced
  show (decide ((0 : Int) < (q.den : Int)) && decide (Int.gcd q.num q.den = 1)) = true
  rw [decide_eq_true hd, decide_eq_true hg]
  rfl
theorem rowB_fr {l : List Rat} : rowB (.tup (l.map frD)) = true := by
  show (l.map frD).all fB = true
  rw [List.all_map, List.all_eq_true]
  intro q _
  exact fB_fr
theorem any_rowE {l : List Rat} (h : l.length ≤ 1000) : (D.tup (l.map frD)).any = true := any_mk (by rw [List.length_map]; exact h) fun y hy => by
  obtain ⟨q, _, rfl⟩ := List.mem_map.mp hy
  simp [frD, D.any, D.anyL]
theorem any_ruE {l m : List Rat} (h : l.length ≤ 1000) (h2 : m.length ≤ 1000) : (ruD l m).any = true := any_mk (by show 2 ≤ 1000; decide) fun y hy => by
  simp only [List.mem_cons, List.not_mem_nil, or_false] at hy
  rcases hy with rfl | rfl
  · exact any_rowE h
  · exact any_rowE h2
theorem ruB_ru {as bs : List Rat} (R : Rv as bs) : ruB (ruD as bs) = true := by
  obtain ⟨m, x, e, x0⟩ := R.top
  have ht : topB (.tup (as.map frD)) = true := by
    rw [e, map_snoc]
    show (match (m.map frD ++ [frD x]).getLast? with
      | some (.tup (.int a :: _)) => decide (a ≠ 0)
      | _ => false) = true
    rw [List.getLast?_concat]
    show decide (x.num ≠ 0) = true
    exact decide_eq_true fun z => x0 (Rat.num_eq_zero.mp z)
  show (rowB _ && rowB _ && (decide ((as.map frD).length = (bs.map frD).length) && (decide (2 ≤ (as.map frD).length) && decide ((as.map frD).length ≤ 9) && topB _))) = true
  rw [rowB_fr, rowB_fr, ht, List.length_map, List.length_map, decide_eq_true R.same.symm, decide_eq_true R.lo, decide_eq_true R.hi]
  rfl
theorem check_rule {P : Prg} (K : Kk P) (k : Nat) {as bs : List Rat} (R : Rv as bs) : run P (k + 6) 76 [ruD as bs] = some (.non, []) := by
  refine run_at (fl := .nx) (e := [some (ruD as bs)]) K.f76 rfl ?_ rfl (.inl rfl)
  show exL (run P (k + 5)) P.gl F76.body [some (ruD as bs)] = _
  have r := ruled_any K.toKr K.f25 K.f61 K.g0 K.g5 k (any_ruE (l := as) (m := bs) (by have := R.hi; omega) (by have := R.hi; have := R.same; omega))
  rw [ruB_ru R] at r
  exact nx_at (ifs_no (not_b (call_tst (v_ev rfl) r))) (by simp only [exL])
theorem between {P : Prg} (K : Kk P) (k : Nat) {z lo hi : Int} : run P (k + 2) 3 [.int z, .int lo, .int hi] = some (.bl (decide (lo ≤ z) && decide (z ≤ hi)), []) := by
  refine run_at (fl := .rt _) (e := [some (.int z), some (.int lo), some (.int hi)]) K.f3 rfl ?_ rfl (.inl rfl)
  show exL (run P (k + 1)) P.gl F3.body [some (.int z), some (.int lo), some (.int hi)] = _
  exact ret_at (and_t (ev_call1 (v_ev rfl) (whole K.toKr k)) (chn_le (v_ev rfl) (v_ev rfl) (v_ev rfl)))
theorem check_number {P : Prg} (K : Kk P) (k : Nat) {z lo hi : Int} (h1 : lo ≤ z) (h2 : z ≤ hi) : run P (k + 3) 77 [.int z, .int lo, .int hi] = some (.non, []) := by
  refine run_at (fl := .nx) (e := [some (.int z), some (.int lo), some (.int hi)]) K.f77 rfl ?_ rfl (.inl rfl)
  show exL (run P (k + 2)) P.gl F77.body [some (.int z), some (.int lo), some (.int hi)] = _
  have r := between K k (z := z) (lo := lo) (hi := hi)
  rw [decide_eq_true h1, decide_eq_true h2] at r
  refine nx_at (ifs_no (not_b (p := true) ?_)) (by simp only [exL])
  simp only [tst, evA, ev, g_at, fillA, outA, lentA, r, t_bl, Bool.and_self, Option.bind_some, Option.map_some, List.getElem?_cons_zero, List.getElem?_cons_succ, Option.join_some, Bool.false_and, Bool.false_eq_true, if_false]
theorem kernelN {P : Prg} (K : Kk P) (k : Nat) {as bs : List Rat} (R : Rv as bs) {Q : Nat} (hQ : Q ≤ 60) (B : KBn (gt0 as.reverse) Q) {N : Nat} (hN : N ≤ Q) : run P (k + 7) 89 [ruD as bs, .int (N : Int)] = some (.tup ((ker (gt0 as.reverse) (N + 1)).map frD), []) := by
  have c1 := check_rule K k R
  have c2 := check_number K (k + 3) (z := (N : Int)) (lo := 0) (hi := 400) (by omega) (by omega)
  have c3 := kernelOfN K (k + 2) (bs := bs) R.lo (by have := R.hi; omega) hQ B hN
  refine run_at (fl := .rt (.tup ((ker (gt0 as.reverse) (N + 1)).map frD))) (e := [some (ruD as bs), some (.int (N : Int))]) K.f89 rfl ?_ rfl (.inl rfl)
  show exL (run P (k + 6)) P.gl F89.body [some (ruD as bs), some (.int (N : Int))] = _
  refine nx_at (env' := [some (ruD as bs), some (.int (N : Int))]) ?_ (nx_at (env' := [some (ruD as bs), some (.int (N : Int))]) ?_ (ret_at (ev_bi1 (d := .lst ((ker (gt0 as.reverse) (N + 1)).map frD)) ?_ b_tuple)))
  · simp only [exS, ev, evA, fillA, outA, lentA, g_at, c1, Option.bind_some, Option.map_some, List.getElem?_cons_zero, Option.join_some, Bool.false_and, Bool.false_eq_true, if_false]
  · simp only [exS, ev, evA, fillA, outA, lentA, g_at, K.g8, c2, Option.bind_some, Option.map_some, List.getElem?_cons_zero, List.getElem?_cons_succ, Option.join_some, Bool.false_and, Bool.false_eq_true, if_false]
  · simp only [ev, evA, fillA, outA, lentA, g_at, c3, Option.bind_some, Option.map_some, List.getElem?_cons_zero, List.getElem?_cons_succ, Option.join_some, Bool.false_and, Bool.false_eq_true, if_false]
theorem kernel {P : Prg} (K : Kk P) (k : Nat) {as bs : List Rat} (R : Rv as bs) (B : KBd (gt0 as.reverse)) {N : Nat} (hN : N ≤ 60) : run P (k + 7) 89 [ruD as bs, .int (N : Int)] = some (.tup ((ker (gt0 as.reverse) (N + 1)).map frD), []) := kernelN K k R (by decide) B.n hN
/-! the law's sums -/
def lsum (l : List Rat) : Rat := l.foldl (· + ·) 0
theorem lsum_snoc {l : List Rat} {q : Rat} : lsum (l ++ [q]) = lsum l + q := by
  unfold lsum
  rw [List.foldl_append]
  rfl
structure Ls (P : Prg) : Prop where
  s171 : P.fn 171 = some F171
  s172 : P.fn 172 = some F172
  s185 : P.fn 185 = some F185
  s187 : P.fn 187 = some F187
  s273 : P.fn 273 = some F273
theorem take_succ {l : List Rat} {i : Nat} (h : i < l.length) : lsum (l.take (i + 1)) = lsum (l.take i) + l[i] := by
  rw [List.take_succ_eq_append_getElem h, lsum_snoc]
theorem lawSum {P : Prg} (L : Ls P) (k S : Nat) (hS : S ≤ 3900) {l : List Rat} (h1 : ∀ q ∈ l, Sz S q) (h2 : ∀ i, i ≤ l.length → Sz S (lsum (l.take i))) : run P (k + 4) 273 [.lst (l.map frD)] = some (frD (lsum l), []) := by
  let St : Nat → Option D → EnD := fun i x => [some (.lst (l.map frD)), some (frD (lsum (l.take i))), x]
  obtain ⟨y, hy⟩ := for_inv (body := fun e => exL (run P (k + 3)) P.gl (.cons (.asg (.n 1) (.call 185 (.val (.v 1) (.val (.v 2) .nil)))) .nil) e) (j := 2) (ds := l.map frD) (St := St) (x := none) (fun i y d => rfl) (fun i h => by
    rw [List.length_map] at h
    have e : (l.map frD)[i]'(by rw [List.length_map]; exact h) = frD l[i] := List.getElem_map ..
    rw [e]
    have a := lawAdd L.s171 L.s172 L.s185 k (h2 i (by omega)) (h1 l[i] (List.getElem_mem h)) hS hS
    rw [← take_succ h] at a
    refine nx_at (env' := St (i + 1) (some (frD l[i]))) (asg_at (d := frD (lsum (l.take (i + 1)))) (env' := St i (some (frD l[i]))) ?_ rfl) (by simp only [exL])
    simp only [St, ev, evA, fillA, outA, lentA, g_at, a, Option.bind_some, Option.map_some, List.getElem?_cons_zero, List.getElem?_cons_succ, Option.join_some, Bool.false_and, Bool.false_eq_true, if_false])
  have e : St (l.map frD).length y = [some (.lst (l.map frD)), some (frD (lsum l)), y] := by
    show [_, some (frD (lsum (l.take (l.map frD).length))), y] = _
    rw [List.length_map, List.take_length]
  rw [e] at hy
  refine run_at (fl := .rt (frD (lsum l))) (e := [some (.lst (l.map frD)), some (frD (lsum l)), y]) L.s273 rfl ?_ rfl (.inl rfl)
  show exL (run P (k + 3)) P.gl F273.body [some (.lst (l.map frD)), none, none] = _
  refine nx_at (env' := St 0 none) (asg_at (d := .tup [.int 0, .int 1]) (env' := [some (.lst (l.map frD)), none, none]) (by simp only [ev, evL, Option.bind_some, Option.map_some]) rfl) (nx_at (for_at (e1 := St 0 none) ?_ hy) (ret_at (v_ev rfl)))
  simp only [St, evI, ev, g_at, seqOf, Option.bind_some, Option.map_some, List.getElem?_cons_zero, Option.join_some]
def natD (f : Nat → Bool) (d : D) : Bool := match d with
  | .int z => f z.toNat
  | _ => false
def natF (f : Nat → Rat) (d : D) : D := match d with
  | .int z => frD (f z.toNat)
  | d => d
end LS
set_option maxHeartbeats 1000000
/-! VJt: the law's trim -/
namespace LS
open PySem L2
theorem lawTrim {P : Prg} (h0 : P.fn 188 = some F188) (k : Nat) (l : List Rat) : run P (k + 1) 188 [.tup (l.map frD)] = some (.tup ((trimQ l).map frD), []) := by
  refine run_at (fl := .rt (.tup ((trimQ l).map frD))) (e := [some (.lst ((trimQ l).map frD))]) h0 rfl ?_ rfl (.inl rfl)
  have e := trim_turns (C := run P k) (G := P.gl) _ l rfl
  show exL (run P k) P.gl F188.body [some (.tup (l.map frD))] = _
  refine nx_at (env' := [some (.lst (l.map frD))]) (asg_at (d := .lst (l.map frD)) (env' := [some (.tup (l.map frD))]) ?_ rfl) (nx_at (env' := [some (.lst ((trimQ l).map frD))]) ?_ (ret_at ?_))
  · simp only [ev, evL, g_at, b_listt, Option.bind_some, Option.map_some, List.getElem?_cons_zero, Option.join_some]
  · unfold exS
    exact e
  · simp only [ev, evL, g_at, b_tuple, Option.bind_some, Option.map_some, List.getElem?_cons_zero, Option.join_some]
end LS
set_option maxHeartbeats 1000000
/-! WF: the law's product of polynomials. -/
namespace LS
open PySem L2
def Pt (f g : Nat → Rat) (i n : Nat) : Rat := sumR i fun j => if j ≤ n then f j * g (n - j) else 0
theorem Pt_succ {f g : Nat → Rat} {i n : Nat} : Pt f g (i + 1) n = Pt f g i n + (if i ≤ n then f i * g (n - i) else 0) := rfl
def tabl (f g : Nat → Rat) (L i j : Nat) : List Rat := (List.range L).map fun n => if i ≤ n ∧ n - i < j then Pt f g (i + 1) n else Pt f g i n
theorem tabl_len {f g : Nat → Rat} {L i j : Nat} : (tabl f g L i j).length = L := by unfold tabl; rw [List.length_map, List.length_range]
theorem tabl_zero {f g : Nat → Rat} {L i : Nat} : tabl f g L i 0 = (List.range L).map (Pt f g i) := List.map_congr_left fun n _ => if_neg (by omega)
theorem tabl_all {f g : Nat → Rat} {L i q : Nat} (hg : ∀ n, q ≤ n → g n = 0) : tabl f g L i q = (List.range L).map (Pt f g (i + 1)) := List.map_congr_left fun n _ => by
  show (if i ≤ n ∧ n - i < q then Pt f g (i + 1) n else Pt f g i n) = Pt f g (i + 1) n
  by_cases h : i ≤ n ∧ n - i < q
  · rw [if_pos h]
  · rw [if_neg h, Pt_succ]
    by_cases h1 : i ≤ n
    · rw [if_pos h1, hg (n - i) (by omega)]; grind
    · rw [if_neg h1]; grind
theorem tabl_at {f g : Nat → Rat} {L i j : Nat} (h : i + j < L) : gt0 (tabl f g L i j) (i + j) = Pt f g i (i + j) := by
  rw [gt0_in (by rw [tabl_len]; exact h)]
  unfold tabl
  rw [List.getElem_map, List.getElem_range, if_neg (by omega)]
theorem tabl_get {f g : Nat → Rat} {L i j n : Nat} (h : n < (tabl f g L i j).length) : (tabl f g L i j)[n] = if i ≤ n ∧ n - i < j then Pt f g (i + 1) n else Pt f g i n := by
  simp only [tabl, List.getElem_map, List.getElem_range]
theorem tabl_set {f g : Nat → Rat} {L i j : Nat} (h : i + j < L) : (tabl f g L i j).set (i + j) (Pt f g (i + 1) (i + j)) = tabl f g L i (j + 1) := by
  refine List.ext_getElem (by rw [List.length_set, tabl_len, tabl_len]) fun n h1 h2 => ?_
  rw [List.getElem_set, tabl_get, tabl_get]
  by_cases e : i + j = n
  · subst e
    rw [if_pos rfl, if_pos (by omega)]
  · rw [if_neg e]
    by_cases c : i ≤ n ∧ n - i < j
    · rw [if_pos c, if_pos (by omega)]
    · rw [if_neg c, if_neg (by omega)]
theorem Pt_conv {f g : Nat → Rat} {p n : Nat} (hf : ∀ n, p ≤ n → f n = 0) : Pt f g p n = conv f g n := by
  unfold Pt conv
  by_cases h : p ≤ n + 1
  · rw [sumR_cut (n := n + 1) (f := fun j => f j * g (n - j)) h (fun i h1 h2 => by show f i * _ = 0; rw [hf i h1]; grind)]
    exact sumR_congr fun i hi => if_pos (by omega)
  · rw [sumR_cut (n := p) (m := n + 1) (by omega) (fun i h1 h2 => if_neg (by omega))]
    exact sumR_congr fun i hi => if_pos (by omega)
structure Lt0 (P : Prg) : Prop where
  s171 : P.fn 171 = some F171
  s172 : P.fn 172 = some F172
  s185 : P.fn 185 = some F185
  s187 : P.fn 187 = some F187
  s188 : P.fn 188 = some F188
  s191 : P.fn 191 = some F191
structure Lt (P : Prg) : Prop extends Ls P where
  s188 : P.fn 188 = some F188
  s191 : P.fn 191 = some F191
theorem trimD {P : Prg} (h0 : P.fn 188 = some F188) (k : Nat) {l : List Rat} {d : D} (hd : biF .list [d] = some (.lst (l.map frD))) : run P (k + 1) 188 [d] = some (.tup ((trimQ l).map frD), []) := by
  refine run_at (fl := .rt (.tup ((trimQ l).map frD))) (e := [some (.lst ((trimQ l).map frD))]) h0 rfl ?_ rfl (.inl rfl)
  have e := trim_turns (C := run P k) (G := P.gl) _ l rfl
  show exL (run P k) P.gl F188.body [some d] = _
  refine nx_at (env' := [some (.lst (l.map frD))]) (asg_at (d := .lst (l.map frD)) (env' := [some d]) (ev_bi1 (v_ev rfl) hd) rfl) (nx_at (env' := [some (.lst ((trimQ l).map frD))]) ?_ (ret_at (ev_bi1 (v_ev rfl) b_tuple)))
  unfold exS
  exact e
theorem flat_frs : ∀ l : List Rat, D.flatL (l.map frD) = true
  | [] => by simp [D.flatL]
  | q :: l => by simp [D.flatL, frD, D.flat, flat_frs l]
theorem o_lrep {d : D} {j : Int} (h1 : 0 ≤ j) (h2 : j ≤ 1000) : opF .mul (.lst [d]) (.int j) = some (.lst (List.replicate j.toNat d)) := by
  have z : sizeLine = 16777216 := by decide
  have hh : [d].length * j.toNat ≤ sizeLine ∧ -(2 ^ 63) ≤ j ∧ j < 2 ^ 63 := ⟨by rw [z, List.length_singleton]; omega, by omega, by omega⟩
  simp only [opF]
  rw [if_pos hh]
  congr 2
  simp
abbrev tmI : SL := (.cons (.sub false 2 (.op .add (.v 3) (.v 4)) (.call 185 (.val (.ix (.v 2) (.op .add (.v 3) (.v 4))) (.val (.call 187 (.val (.ix (.v 0) (.v 3)) (.val (.ix (.v 1) (.v 4)) .nil))) .nil)))) .nil)
abbrev tmB : SL := (.cons (.for_ (.n 4) (.rng1 (.bi .len (.cons (.v 1) .nil))) tmI) .nil)
theorem lawTimes0B {P : Prg} (L : Lt0 P) (k : Nat) {l m : List Rat} {n1 n2 : Nat} (b1 : n1 ≤ 1900) (b2 : n2 ≤ 1900) (l0 : 0 < l.length) (m0 : 0 < m.length) (ll : l.length ≤ 100) (ml : m.length ≤ 100) (hl : ∀ i, Sz n1 (gt0 l i)) (hm : ∀ i, Sz n2 (gt0 m i)) (hs : ∀ i n, i ≤ l.length → n < l.length + m.length - 1 → Sz 1900 (Pt (gt0 l) (gt0 m) i n)) : run P (k + 4) 191 [.tup (l.map frD), .tup (m.map frD)] = some (.tup ((trimQ ((List.range (l.length + m.length - 1)).map (conv (gt0 l) (gt0 m)))).map frD), []) := by
  let A : D := .tup (l.map frD)
  let M : D := .tup (m.map frD)
  let N := l.length + m.length - 1
  let f := gt0 l
  let g := gt0 m
  let St : Nat → Nat → Option D → EnD := fun i j x => [some A, some M, some (.lst ((tabl f g N i j).map frD)), some (.int (i : Int)), x]
  have turn : ∀ i, i < l.length → ∀ y : Option D, ∃ y', exL (run P (k + 3)) P.gl tmB (St i 0 y) = some (.nx, St i m.length y') := by
    intro i hi y
    obtain ⟨y', hy⟩ := for_inv (body := fun e => exL (run P (k + 3)) P.gl tmI e) (j := 4) (ds := rng 0 m.length) (St := fun j x => St i j x) (x := y) (fun j y d => rfl) (fun j h => by
      rw [rng_at h]
      rw [rng_len] at h
      have e0 : (0 : Int) + ((j : Nat) : Int) = (j : Int) := Int.zero_add _
      rw [e0]
      have hN : i + j < N := by omega
      have y1 : ixF (.lst ((tabl f g N i j).map frD)) (.int ((i : Int) + (j : Int))) = some (frD (Pt f g i (i + j))) := by
        have := ixl_fr (l := tabl f g N i j) (z := (i : Int) + (j : Int)) (by omega) (by rw [tabl_len]; omega)
        rw [this]
        have : ((i : Int) + (j : Int)).toNat = i + j := by omega
        rw [this, tabl_at hN]
      have y2 : ixF A (.int (i : Int)) = some (frD (f i)) := ixt_fr (l := l) (z := (i : Int)) (by omega) (by omega)
      have y3 : ixF M (.int (j : Int)) = some (frD (g j)) := ixt_fr (l := m) (z := (j : Int)) (by omega) (by omega)
      have sp : Sz (n1 + n2) (f i * g j) := sz_mul (hl i) (hm j)
      have p1 : run P (k + 3) 187 [frD (f i), frD (g j)] = some (frD (f i * g j), []) := lawMul L.s171 L.s172 L.s187 k (hl i) (hm j) (by omega) (by omega)
      have p2 : run P (k + 3) 185 [frD (Pt f g i (i + j)), frD (f i * g j)] = some (frD (Pt f g (i + 1) (i + j)), []) := by
        have := lawAdd L.s171 L.s172 L.s185 k (hs i (i + j) (by omega) hN) sp (by decide) (by omega)
        have e : Pt f g (i + 1) (i + j) = Pt f g i (i + j) + f i * g j := by
          rw [Pt_succ, if_pos (by omega)]
          have : i + j - i = j := by omega
          rw [this]
        rw [e]
        exact this
      have hx : ixN ((tabl f g N i j).map frD).length ((i : Int) + (j : Int)) = some (i + j) := by
        unfold ixN
        rw [if_pos (by omega), if_pos (by rw [List.length_map, tabl_len]; omega)]
        congr 1
      have hset : ((tabl f g N i j).map frD).set (i + j) (frD (Pt f g (i + 1) (i + j))) = (tabl f g N i (j + 1)).map frD := by
        rw [← List.map_set, tabl_set hN]
      refine nx_at (env' := St i (j + 1) (some (.int (j : Int)))) ?_ (by simp only [exL])
      have ee : ev (run P (k + 3)) P.gl (.call 185 (.val (.ix (.v 2) (.op .add (.v 3) (.v 4))) (.val (.call 187 (.val (.ix (.v 0) (.v 3)) (.val (.ix (.v 1) (.v 4)) .nil))) .nil))) (St i j (some (.int (j : Int)))) = some (frD (Pt f g (i + 1) (i + j)), St i j (some (.int (j : Int)))) := by
        simp only [St, ev, evA, fillA, outA, lentA, g_at, o_add, y1, y2, y3, p1, p2, Option.bind_some, Option.map_some, List.getElem?_cons_zero, List.getElem?_cons_succ, Option.join_some, Bool.false_and, Bool.false_eq_true, if_false]
      have ex : ev (run P (k + 3)) P.gl (.op .add (.v 3) (.v 4)) (St i j (some (.int (j : Int)))) = some (.int ((i : Int) + (j : Int)), St i j (some (.int (j : Int)))) := by
        simp only [St, ev, g_at, o_add, Option.bind_some, Option.map_some, List.getElem?_cons_zero, List.getElem?_cons_succ, Option.join_some]
      have eg : getE (St i j (some (.int (j : Int)))) 2 = some (.lst ((tabl f g N i j).map frD)) := rfl
      simp only [exS]
      rw [ee]
      simp only [Option.bind_some]
      rw [eg]
      simp only [Option.bind_some]
      rw [ex]
      simp only [Option.bind_some]
      rw [eg]
      simp only [Bool.false_and, Bool.false_eq_true, if_false, hx, Option.map_some, hset]
      rfl)
    rw [rng_len] at hy
    refine ⟨y', nx_at (for_at (e1 := St i 0 y) (rng1_at (n := m.length) ?_ (by omega)) hy) (by simp only [exL])⟩
    have := len_ev (C := run P (k + 3)) (G := P.gl) (a := .v 1) (env := St i 0 y) (l := m.map frD) (v_ev rfl)
    rw [List.length_map] at this
    exact this
  obtain ⟨e', h1, x, h5, rfl⟩ := for_rel (body := fun e => exL (run P (k + 3)) P.gl tmB e) (j := 3) (ds := rng 0 l.length) (I := fun i env => ∃ x y, env = [some A, some M, some (.lst (((List.range N).map (Pt f g i)).map frD)), x, y]) (env := [some A, some M, some (.lst (((List.range N).map (Pt f g 0)).map frD)), none, none]) ⟨none, none, rfl⟩ (fun i h env he => by
    obtain ⟨x, y, rfl⟩ := he
    rw [rng_at h]
    rw [rng_len] at h
    obtain ⟨y', ht⟩ := turn i h y
    have e1 : (0 + (i : Int)) = (i : Int) := by omega
    rw [e1]
    have e2 : St i 0 y = [some A, some M, some (.lst (((List.range N).map (Pt f g i)).map frD)), some (.int (i : Int)), y] := by
      show [some A, some M, some (.lst ((tabl f g N i 0).map frD)), _, y] = _
      rw [tabl_zero]
    have e3 : St i m.length y' = [some A, some M, some (.lst (((List.range N).map (Pt f g (i + 1))).map frD)), some (.int (i : Int)), y'] := by
      show [some A, some M, some (.lst ((tabl f g N i m.length).map frD)), _, y'] = _
      rw [tabl_all fun n hn => gt0_out hn]
    rw [e2, e3] at ht
    exact ⟨_, ht, _, _, rfl⟩)
  rw [rng_len] at h1
  have ec : (List.range N).map (Pt f g l.length) = (List.range N).map (conv f g) := List.map_congr_left fun n _ => Pt_conv fun n hn => gt0_out hn
  rw [ec] at h1
  have e0 : List.replicate N (D.tup [.int 0, .int 1]) = ((List.range N).map (Pt f g 0)).map frD := by
    rw [List.map_map]
    refine List.ext_getElem (by simp) fun i h1 h2 => ?_
    rw [List.getElem_replicate, List.getElem_map]
    rfl
  refine run_at (fl := .rt _) (e := [some A, some M, some (.lst (((List.range N).map (conv f g)).map frD)), x, h5]) L.s191 rfl ?_ rfl (.inl rfl)
  show exL (run P (k + 3)) P.gl F191.body [some A, some M, none, none, none] = _
  have la := len_ev (C := run P (k + 3)) (G := P.gl) (a := .v 0) (env := [some A, some M, none, none, none]) (l := l.map frD) (v_ev rfl)
  have lm := len_ev (C := run P (k + 3)) (G := P.gl) (a := .v 1) (env := [some A, some M, none, none, none]) (l := m.map frD) (v_ev rfl)
  rw [List.length_map] at la lm
  refine nx_at (ifs_no (or_b (p := false) (q := false) (cmp_tst la int_ev (by rw [c_eqi, decide_eq_false (by omega)])) fun _ => cmp_tst lm int_ev (by rw [c_eqi, decide_eq_false (by omega)]))) (nx_at (env' := [some A, some M, some (.lst (((List.range N).map (Pt f g 0)).map frD)), none, none]) ?_ (nx_at (for_at (e1 := [some A, some M, some (.lst (((List.range N).map (Pt f g 0)).map frD)), none, none]) (rng1_at (n := l.length) ?_ (by omega)) h1) (ret_at ?_)))
  · rw [← e0]
    refine own_at (env' := [some A, some M, none, none, none]) ?_
    have hj : ((l.length : Int) + (m.length : Int) - 1).toNat = N := by omega
    have hr := o_lrep (d := .tup [.int 0, .int 1]) (j := (l.length : Int) + (m.length : Int) - 1) (by omega) (by omega)
    rw [hj] at hr
    simp only [ev, evL, g_at, A, M, b_lent, List.length_map, o_add, o_sub, hr, Option.bind_some, Option.map_some, List.getElem?_cons_zero, List.getElem?_cons_succ, Option.join_some]
  · have := len_ev (C := run P (k + 3)) (G := P.gl) (a := .v 0) (env := [some A, some M, some (.lst (((List.range N).map (Pt f g 0)).map frD)), none, none]) (l := l.map frD) (v_ev rfl)
    rw [List.length_map] at this
    exact this
  · have t := trimD L.s188 (k + 2) (l := (List.range N).map (conv f g)) (d := .lst (((List.range N).map (conv f g)).map frD)) rfl
    have fl : D.flat (.tup ((trimQ ((List.range N).map (conv f g))).map frD)) = true := by
      unfold D.flat
      exact flat_frs _
    simp only [ev, evA, fillA, outA, lentA, g_at, t, fl, Bool.not_true, Bool.and_false, Bool.true_and, Bool.false_eq_true, if_false, Option.bind_some, Option.map_some, List.getElem?_cons_zero, List.getElem?_cons_succ, Option.join_some]
    rfl
theorem lawTimes0 {P : Prg} (L : Lt0 P) (k : Nat) {l m : List Rat} (l0 : 0 < l.length) (m0 : 0 < m.length) (ll : l.length ≤ 100) (ml : m.length ≤ 100) (hl : ∀ i, Sz 100 (gt0 l i)) (hm : ∀ i, Sz 100 (gt0 m i)) (hs : ∀ i n, i ≤ l.length → n < l.length + m.length - 1 → Sz 1900 (Pt (gt0 l) (gt0 m) i n)) : run P (k + 4) 191 [.tup (l.map frD), .tup (m.map frD)] = some (.tup ((trimQ ((List.range (l.length + m.length - 1)).map (conv (gt0 l) (gt0 m)))).map frD), []) := lawTimes0B L k (by decide) (by decide) l0 m0 ll ml hl hm hs
theorem lawTimes {P : Prg} (L : Lt P) (k : Nat) {l m : List Rat} (l0 : 0 < l.length) (m0 : 0 < m.length) (ll : l.length ≤ 100) (ml : m.length ≤ 100) (hl : ∀ i, Sz 100 (gt0 l i)) (hm : ∀ i, Sz 100 (gt0 m i)) (hs : ∀ i n, i ≤ l.length → n < l.length + m.length - 1 → Sz 1900 (Pt (gt0 l) (gt0 m) i n)) : run P (k + 4) 191 [.tup (l.map frD), .tup (m.map frD)] = some (.tup ((trimQ ((List.range (l.length + m.length - 1)).map (conv (gt0 l) (gt0 m)))).map frD), []) := lawTimes0 ⟨L.s171, L.s172, L.s185, L.s187, L.s188, L.s191⟩ k l0 m0 ll ml hl hm hs
end LS
set_option maxHeartbeats 1000000
/-! VP2: the drawn fractions, with the denominator 60. -/
namespace LS
open PySem L2
/-- a drawn fraction -/
def Dq (q : Rat) : Prop := Sz 7 q ∧ Fq 60 2400 q
theorem in_undersD {x : D} (h : x ∈ unders) : ∃ n : Int, x = .int n ∧ 1 ≤ n ∧ n ≤ 12 ∧ ∃ t : Int, n * t = 60 ∧ 1 ≤ t ∧ t ≤ 60 := by
  simp only [unders, List.mem_cons, List.not_mem_nil, or_false] at h
  rcases h with rfl | rfl | rfl | rfl | rfl | rfl | rfl | rfl | rfl
  · exact ⟨_, rfl, by decide, by decide, 60, by decide, by decide, by decide⟩
  · exact ⟨_, rfl, by decide, by decide, 60, by decide, by decide, by decide⟩
  · exact ⟨_, rfl, by decide, by decide, 60, by decide, by decide, by decide⟩
  · exact ⟨_, rfl, by decide, by decide, 60, by decide, by decide, by decide⟩
  · exact ⟨_, rfl, by decide, by decide, 30, by decide, by decide, by decide⟩
  · exact ⟨_, rfl, by decide, by decide, 30, by decide, by decide, by decide⟩
  · exact ⟨_, rfl, by decide, by decide, 20, by decide, by decide, by decide⟩
  · exact ⟨_, rfl, by decide, by decide, 12, by decide, by decide, by decide⟩
  · exact ⟨_, rfl, by decide, by decide, 5, by decide, by decide, by decide⟩
theorem fq_div {w u t : Int} {M : Nat} (u0 : u ≠ 0) (ht : u * t = 60) (h : (w * t).natAbs ≤ M) : Fq 60 M (Rat.divInt w u) := by
  refine ⟨w * t, ?_, h⟩
  rw [Rat.divInt_eq_div, ← ht, Rat.intCast_mul, Rat.intCast_mul]
  have := cast_ne u0
  grind
theorem lawAnyD {P : Prg} (h0 : P.fn 169 = some F169) (h00 : P.fn 170 = some F170) (h1 : P.fn 171 = some F171) (h2 : P.fn 172 = some F172) (h3 : P.fn 173 = some F173) (k : Nat) {B : Nat} {v : D} (hv : Vn B v) (hB : B < 2 ^ 50) : ∃ q v', run P (k + 3) 173 [v] = some (frD q, [v']) ∧ Vn (B + 3) v' ∧ Dq q := by
  obtain ⟨x, v1, a1, a2, a3⟩ := choice h0 h00 k (l := [.int 3, .int 3, .int 3, .int 6, .int 6, .int 40]) hv (by simp) (by decide) (by omega)
  have hx : ∃ n : Int, x = .int n ∧ 3 ≤ n ∧ n ≤ 40 := by
    simp only [List.mem_cons, List.not_mem_nil, or_false] at a3
    rcases a3 with rfl | rfl | rfl | rfl | rfl | rfl <;> exact ⟨_, rfl, by decide, by decide⟩
  obtain ⟨n, rfl, n1, n2⟩ := hx
  obtain ⟨r, v2, b1, b2, b3, b4⟩ := chip h0 (k + 1) (n := 2 * n + 1) a2 (by omega) (by omega) (by omega)
  obtain ⟨y, v3, c1, c2, c3⟩ := choice h0 h00 k (l := unders) b2 (by simp) (by decide) (by omega)
  obtain ⟨u, rfl, u1, u2, t, ht, t1, t2⟩ := in_undersD c3
  have u0 : u ≠ 0 := by omega
  have e := lawF h1 h2 k (a := r - n) u0 (Nat.lt_of_lt_of_le (show u.natAbs < 2 ^ 4 by omega) (Nat.pow_le_pow_right (by decide) (by decide)))
  have sm : smallMul 2 n = true := small_of (by decide) (big_of (b := 8) (by omega) (by decide))
  refine ⟨Rat.divInt (r - n) u, v3, run_at (fl := .rt (frD (Rat.divInt (r - n) u))) (e := [some v3, some (.int n)]) h3 rfl ?_ rfl (.inl rfl), c2, sz_div u0 (by omega) (by omega), fq_div u0 ht (by
    rw [Int.natAbs_mul]
    exact Nat.le_trans (Nat.mul_le_mul (show (r - n).natAbs ≤ 40 by omega) (show t.natAbs ≤ 60 by omega)) (by decide))⟩
  show exL (run P (k + 2)) P.gl F173.body [some v, none] = _
  unfold unders at c1
  simp only [F173, exL, exS, ev, evL, evA, fillA, outA, lentA, g_at, asgT, a1, b1, c1, e, o_mul sm, o_add, o_sub, Option.bind_some, Option.map_some, List.getElem?_cons_zero, List.getElem?_cons_succ, Option.join_some, Bool.false_and, Bool.false_eq_true, if_false, List.set_cons_zero, List.set_cons_succ]
theorem lawSomeD {P : Prg} (h0 : P.fn 169 = some F169) (h00 : P.fn 170 = some F170) (h1 : P.fn 171 = some F171) (h2 : P.fn 172 = some F172) (h3 : P.fn 206 = some F206) (k : Nat) {B : Nat} {v : D} (hv : Vn B v) (hB : B < 2 ^ 50) : ∃ q v', run P (k + 3) 206 [v] = some (frD q, [v']) ∧ Vn (B + 4) v' ∧ (Sz 7 q ∧ Fq 60 1800 q) ∧ q ≠ 0 := by
  obtain ⟨x, v1, a1, a2, a3⟩ := choice h0 h00 k (l := [.int 2, .int 2, .int 4, .int 4, .int 30]) hv (by simp) (by decide) (by omega)
  have hx : ∃ n : Int, x = .int n ∧ 2 ≤ n ∧ n ≤ 30 := by
    simp only [List.mem_cons, List.not_mem_nil, or_false] at a3
    rcases a3 with rfl | rfl | rfl | rfl | rfl <;> exact ⟨_, rfl, by decide, by decide⟩
  obtain ⟨n, rfl, n1, n2⟩ := hx
  obtain ⟨r, v2, b1, b2, b3, b4⟩ := chip h0 (k + 1) (n := n) a2 (by omega) (by omega) (by omega)
  obtain ⟨s, v3, d1, d2, d3, d4⟩ := chip h0 (k + 1) (n := 2) b2 (by omega) (by omega) (by omega)
  obtain ⟨y, v4, c1, c2, c3⟩ := choice h0 h00 k (l := unders) d2 (by simp) (by decide) (by omega)
  obtain ⟨u, rfl, u1, u2, t, ht, t1, t2⟩ := in_undersD c3
  have u0 : u ≠ 0 := by omega
  obtain ⟨w, hw, w0, wz⟩ : ∃ w : Int, w = (if s = 0 then 1 + r else 0 - (1 + r)) ∧ w ≠ 0 ∧ w.natAbs ≤ 30 := by
    by_cases hs : s = 0
    · exact ⟨1 + r, by rw [if_pos hs], by omega, by omega⟩
    · exact ⟨0 - (1 + r), by rw [if_neg hs], by omega, by omega⟩
  have e := lawF h1 h2 k (a := w) u0 (Nat.lt_of_lt_of_le (show u.natAbs < 2 ^ 4 by omega) (Nat.pow_le_pow_right (by decide) (by decide)))
  refine ⟨Rat.divInt w u, v4, run_at (fl := .rt (frD (Rat.divInt w u))) (e := [some v4, some (.int (1 + r))]) h3 rfl ?_ rfl (.inl rfl), c2, ⟨sz_div u0 (by omega) (by omega), fq_div u0 ht (by
    rw [Int.natAbs_mul]
    exact Nat.le_trans (Nat.mul_le_mul wz (show t.natAbs ≤ 60 by omega)) (by decide))⟩, fun z => ?_⟩
  · show exL (run P (k + 2)) P.gl F206.body [some v, none] = _
    unfold unders at c1
    by_cases hs : s = 0
    · rw [if_pos hs] at hw
      subst hw
      simp only [F206, exL, exS, ev, tst, evL, evA, fillA, outA, lentA, g_at, asgT, a1, b1, d1, c1, e, c_eqi, s_bl, decide_eq_true hs, o_add, o_sub, Option.bind_some, Option.map_some, List.getElem?_cons_zero, List.getElem?_cons_succ, Option.join_some, Bool.false_and, Bool.false_eq_true, if_false, if_true, List.set_cons_zero, List.set_cons_succ]
    · rw [if_neg hs] at hw
      subst hw
      simp only [F206, exL, exS, ev, tst, evL, evA, fillA, outA, lentA, g_at, asgT, a1, b1, d1, c1, e, c_eqi, s_bl, decide_eq_false hs, o_add, o_sub, Option.bind_some, Option.map_some, List.getElem?_cons_zero, List.getElem?_cons_succ, Option.join_some, Bool.false_and, Bool.false_eq_true, if_false, if_true, List.set_cons_zero, List.set_cons_succ]
  · rw [Rat.divInt_eq_div] at z
    have hu : (u : Rat) ≠ 0 := fun q => u0 (Rat.intCast_eq_zero_iff.mp q)
    have hw0 : (w : Rat) ≠ 0 := fun q => w0 (Rat.intCast_eq_zero_iff.mp q)
    grind
theorem anys_turnsD {P : Prg} (h0 : P.fn 169 = some F169) (h00 : P.fn 170 = some F170) (h1 : P.fn 171 = some F171) (h2 : P.fn 172 = some F172) (h3 : P.fn 173 = some F173) (k : Nat) {G : Nat → Option D} {mm : D} : ∀ (ds : List D) {B : Nat} {v : D} {l : List D} {x : Option D}, Vn B v → B + 3 * ds.length < 2 ^ 49 → l.length + ds.length ≤ 1000 →
    ∃ (v' : D) (qs : List Rat) (x' : Option D), forL (fun e => exL (run P (k + 3)) G anB e) (.n 3) ds [some v, some mm, some (.lst l), x] = some (.nx, [some v', some mm, some (.lst (l ++ qs.map frD)), x']) ∧ Vn (B + 3 * ds.length) v' ∧ qs.length = ds.length ∧ ∀ q ∈ qs, Dq q
  | [], B, v, l, x, hv, hB, hl => ⟨v, [], x, by unfold forL; rw [List.map_nil, List.append_nil], hv, rfl, fun q hq => by cases hq⟩
  | d :: ds, B, v, l, x, hv, hB, hl => by
    rw [List.length_cons] at hB hl
    obtain ⟨q, v1, a1, a2, a3⟩ := lawAnyD h0 h00 h1 h2 h3 k hv (by omega)
    obtain ⟨v2, qs, x2, b1, b2, b3, b4⟩ := anys_turnsD h0 h00 h1 h2 h3 k (G := G) (mm := mm) ds (l := l ++ [frD q]) (x := some d) a2 (by omega) (by rw [List.length_append]; simp; omega)
    refine ⟨v2, q :: qs, x2, ?_, by rw [List.length_cons, show B + 3 * (ds.length + 1) = B + 3 + 3 * ds.length by omega]; exact b2, by rw [List.length_cons, List.length_cons, b3], fun p hp => (List.mem_cons.mp hp).elim (fun e => e ▸ a3) (b4 p)⟩
    unfold forL
    have e : asgT (.n 3) d [some v, some mm, some (.lst l), x] = some [some v, some mm, some (.lst l), some d] := rfl
    rw [e]
    simp only [Option.bind_some]
    rw [anB_at a1 (by omega)]
    simp only [Option.bind_some]
    rw [b1, List.append_assoc]
    rfl
theorem lawAnysD {P : Prg} (h0 : P.fn 169 = some F169) (h00 : P.fn 170 = some F170) (h1 : P.fn 171 = some F171) (h2 : P.fn 172 = some F172) (h3 : P.fn 173 = some F173) (h4 : P.fn 199 = some F199) (k : Nat) {B n : Nat} {v : D} (hv : Vn B v) (hB : B < 1000000) (hn : n ≤ 1000) : ∃ (qs : List Rat) (v' : D), run P (k + 4) 199 [v, .int n] = some (.lst (qs.map frD), [v']) ∧ Vn (B + 3 * n) v' ∧ qs.length = n ∧ ∀ q ∈ qs, Dq q := by
  obtain ⟨v1, qs, x, a1, a2, a3, a4⟩ := anys_turnsD h0 h00 h1 h2 h3 k (G := P.gl) (mm := .int n) (rng 0 n) (l := []) (x := none) hv (Nat.lt_of_lt_of_le (show B + 3 * (rng 0 n).length < 2000000 by rw [rng_len]; omega) (by decide)) (by rw [rng_len]; simp; omega)
  rw [rng_len] at a2 a3
  rw [List.nil_append] at a1
  have hb := anys_body (anys_for hn a1)
  exact ⟨qs, v1, run_at (fl := .rt (.lst (qs.map frD))) (e := [some v1, some (.int n), some (.lst (qs.map frD)), x]) h4 rfl hb rfl (.inr ⟨_, rfl⟩), a2, a3, a4⟩
theorem lawRuleD {P : Prg} (L : Lw P) (k : Nat) {B : Nat} {v : D} (hv : Vn B v) (hB : B < 900000) : ∃ (m bs : List Rat) (x : Rat) (v' : D), run P (k + 5) 259 [v] = some (ruD (m ++ [x]) bs, [v']) ∧ Vn (B + 100) v' ∧ x ≠ 0 ∧ (Sz 7 x ∧ Fq 60 1800 x) ∧ (∀ q ∈ m, Dq q) ∧ (∀ q ∈ bs, Dq q) ∧ 1 ≤ m.length ∧ m.length ≤ 8 ∧ bs.length = m.length + 1 := by
  obtain ⟨n, v1, a1, a2, a3, a4⟩ := lawSteps L (k + 1) hv (by omega)
  obtain ⟨m, v2, b1, b2, b3, b4⟩ := lawAnysD L.f169 L.f170 L.f171 L.f172 L.f173 L.f199 k (n := n) a2 (by omega) (by omega)
  obtain ⟨x, v3, c1, c2, c3, c4⟩ := lawSomeD L.f169 L.f170 L.f171 L.f172 L.f206 (k + 1) b2 (lt50 (by omega))
  obtain ⟨bs, v4, d1, d2, d3, d4⟩ := lawAnysD L.f169 L.f170 L.f171 L.f172 L.f173 L.f199 k (n := n + 1) c2 (by omega) (by omega)
  have hs : (m.map frD).length + [frD x].length ≤ sizeLine := by
    rw [List.length_map, List.length_singleton]
    have z : sizeLine = 16777216 := by decide
    omega
  have en : ((n : Int) + 1) = (((n + 1 : Nat)) : Int) := by omega
  refine ⟨m, bs, x, v4, run_at (fl := .rt (ruD (m ++ [x]) bs)) (e := [some v4, some (.int (n : Int)), some (.lst ((m ++ [x]).map frD))]) L.f259 rfl ?_ rfl (.inl rfl), ?_, c4, c3, b4, d4, by omega, by omega, by omega⟩
  · show exL (run P (k + 4)) P.gl F259.body [some v, none, none] = _
    refine nx_at (env' := [some v1, some (.int (n : Int)), none]) (asg_at (d := .int (n : Int)) (env' := [some v1, none, none]) ?_ rfl) (nx_at (env' := [some v3, some (.int (n : Int)), some (.lst ((m ++ [x]).map frD))]) (asg_at (d := .lst ((m ++ [x]).map frD)) (env' := [some v3, some (.int (n : Int)), none]) ?_ rfl) (ret_at ?_))
    · simp only [ev, evA, fillA, outA, lentA, g_at, a1, Option.bind_some, Option.map_some, List.getElem?_cons_zero, Option.join_some, Bool.false_and, Bool.false_eq_true, if_false, List.set_cons_zero]
    · rw [map_snoc]
      simp only [ev, evL, evA, fillA, outA, lentA, g_at, b1, c1, o_lst hs, Option.bind_some, Option.map_some, List.getElem?_cons_zero, List.getElem?_cons_succ, Option.join_some, Bool.false_and, Bool.false_eq_true, if_false, List.set_cons_zero]
    · simp only [ev, evL, evA, fillA, outA, lentA, g_at, b_tuple, o_add, en, d1, Option.bind_some, Option.map_some, List.getElem?_cons_zero, List.getElem?_cons_succ, Option.join_some, Bool.false_and, Bool.false_eq_true, if_false, List.set_cons_zero]
      rfl
  · obtain ⟨a, m', c, e, h1, h2, h3, h4⟩ := d2
    exact ⟨a, m', c, e, h1, by omega, h3, h4⟩
end LS
set_option maxHeartbeats 1000000
/-! WG: kernels of products. -/
namespace LS
theorem gt0_rev {l : List Rat} {i : Nat} (h : i < l.length) : gt0 l.reverse i = gt0 l (l.length - 1 - i) := by
  rw [gt0_in (by rw [List.length_reverse]; exact h), gt0_in (by omega), List.getElem_reverse]
theorem gt0_map {l : List Rat} {F : Rat → Rat} (h0 : F 0 = 0) {i : Nat} : gt0 (l.map F) i = F (gt0 l i) := by
  by_cases h : i < l.length
  · rw [gt0_in (by rw [List.length_map]; exact h), gt0_in h, List.getElem_map]
  · rw [gt0_out (by rw [List.length_map]; omega), gt0_out (by omega), h0]
theorem gt0_range {F : Nat → Rat} {n i : Nat} (h : i < n) : gt0 ((List.range n).map F) i = F i := by
  rw [gt0_in (by rw [List.length_map, List.length_range]; exact h), List.getElem_map, List.getElem_range]
theorem gt0_mem {l : List Rat} {Q : Rat → Prop} (h : ∀ q ∈ l, Q q) (h0 : Q 0) (i : Nat) : Q (gt0 l i) := by
  by_cases hi : i < l.length
  · rw [gt0_in hi]; exact h _ (List.getElem_mem hi)
  · rw [gt0_out (by omega)]; exact h0
theorem conv_out {f g : Nat → Rat} {p q n : Nat} (hf : ∀ i, p ≤ i → f i = 0) (hg : ∀ i, q ≤ i → g i = 0) (h : p + q ≤ n + 1) : conv f g n = 0 := sumR_zero fun i hi => by
  show f i * g (n - i) = 0
  by_cases z : p ≤ i
  · rw [hf i z]; grind
  · rw [hg (n - i) (by omega)]; grind
theorem conv_last {f g : Nat → Rat} {p q : Nat} (hf : ∀ i, p + 1 ≤ i → f i = 0) (hg : ∀ i, q + 1 ≤ i → g i = 0) : conv f g (p + q) = f p * g q := by
  unfold conv
  rw [sumR_cut (n := p + q + 1) (m := p + 1) (by omega) (fun i h1 h2 => by show f i * _ = 0; rw [hf i h1]; grind)]
  have e : sumR (p + 1) (fun j => f j * g (p + q - j)) = sumR p (fun j => f j * g (p + q - j)) + f p * g (p + q - p) := rfl
  rw [e, sumR_zero (n := p) (fun i hi => by show f i * g (p + q - i) = 0; rw [hg (p + q - i) (by omega)]; grind)]
  have : p + q - p = q := by omega
  rw [this]
  grind
/-- the product, read backwards -/
theorem rev_conv {l m : List Rat} (l0 : 0 < l.length) (m0 : 0 < m.length) (n : Nat) : gt0 ((List.range (l.length + m.length - 1)).map (conv (gt0 l) (gt0 m))).reverse n = conv (gt0 l.reverse) (gt0 m.reverse) n := by
  have hf : ∀ i, l.length ≤ i → gt0 l i = 0 := fun i h => gt0_out h
  have hg : ∀ i, m.length ≤ i → gt0 m i = 0 := fun i h => gt0_out h
  have hrf : ∀ i, l.length ≤ i → gt0 l.reverse i = 0 := fun i h => gt0_out (by rw [List.length_reverse]; exact h)
  have hrg : ∀ i, m.length ≤ i → gt0 m.reverse i = 0 := fun i h => gt0_out (by rw [List.length_reverse]; exact h)
  by_cases h : n < l.length + m.length - 1
  · rw [gt0_rev (by rw [List.length_map, List.length_range]; exact h), List.length_map, List.length_range, gt0_range (by omega), ← Pt_conv hf, ← Pt_conv hrf]
    unfold Pt
    rw [sumR_rev]
    refine sumR_congr fun i hi => ?_
    show (if l.length - 1 - i ≤ l.length + m.length - 1 - 1 - n then gt0 l (l.length - 1 - i) * gt0 m (l.length + m.length - 1 - 1 - n - (l.length - 1 - i)) else 0) = if i ≤ n then gt0 l.reverse i * gt0 m.reverse (n - i) else 0
    by_cases c : i ≤ n
    · rw [if_pos c, gt0_rev hi]
      by_cases d : n - i < m.length
      · rw [if_pos (by omega), gt0_rev d]
        have e : l.length + m.length - 1 - 1 - n - (l.length - 1 - i) = m.length - 1 - (n - i) := by omega
        rw [e]
      · rw [if_neg (by omega), hrg (n - i) (by omega)]
        grind
    · rw [if_neg c]
      by_cases d : l.length - 1 - i ≤ l.length + m.length - 1 - 1 - n
      · rw [if_pos d, hg _ (by omega)]
        grind
      · rw [if_neg d]
  · rw [gt0_out (by rw [List.length_reverse, List.length_map, List.length_range]; omega)]
    exact (conv_out hrf hrg (by omega)).symm
/-- the kernel of a product is the product of the kernels -/
theorem ker_prod {b c bc : Nat → Rat} (b0 : b 0 ≠ 0) (c0 : c 0 ≠ 0) (h : ∀ n, bc n = conv b c n) (n : Nat) : gK bc n = conv (gK b) (gK c) n := by
  have z0 : bc 0 ≠ 0 := by
    rw [h 0, conv_zero]
    intro z
    grind
  refine conv_inj z0 (N := n) (fun k _ => ?_) n (Nat.le_refl _)
  rw [conv_ker z0, conv_congr (fun i _ => h i) (fun i _ => rfl), conv_assoc]
  have e : ∀ i, i ≤ k → conv c (conv (gK b) (gK c)) i = gK b i := fun i _ => by
    rw [← conv_assoc, conv_congr (f' := conv (gK b) c) (g' := gK c) (fun j _ => conv_comm) (fun j _ => rfl), conv_assoc, conv_congr (f' := gK b) (g' := one0) (fun j _ => rfl) (fun j _ => conv_ker c0 j), conv_comm, conv_one]
  rw [conv_congr (f' := b) (g' := gK b) (fun j _ => rfl) e, conv_ker b0]
/-- a row times a number: its kernel over it -/
theorem ker_times {b : Nat → Rat} {w : Rat} (b0 : b 0 ≠ 0) (w0 : w ≠ 0) (n : Nat) : gK (fun i => b i * w) n = gK b n / w := by
  have z0 : (fun i => b i * w) 0 ≠ 0 := by
    show b 0 * w ≠ 0
    intro z
    grind
  refine conv_inj (b := fun i => b i * w) z0 (N := n) (h := fun i => gK b i / w) (fun k _ => ?_) n (Nat.le_refl _)
  rw [conv_ker (b := fun i => b i * w) z0, ← conv_ker b0 k]
  refine sumR_congr fun i _ => ?_
  show b i * gK b (k - i) = b i * w * (gK b (k - i) / w)
  grind
theorem Pt_fq {f g : Nat → Rat} {M N : Nat} (hf : ∀ i, Fq 60 M (f i)) (hg : ∀ i, Fq 60 N (g i)) : ∀ i n, Fq 3600 (i * (M * N)) (Pt f g i n)
  | 0, n => Fq.zero
  | i + 1, n => by
    rw [Pt_succ, Nat.succ_mul]
    refine (Pt_fq hf hg i n).add ?_
    by_cases h : i ≤ n
    · rw [if_pos h]
      exact (hf i).mul (hg (n - i))
    · rw [if_neg h]; exact Fq.zero
/-- partial sums of a row times its kernel -/
theorem ker_csum {b : Nat → Rat} {D al : Int} {N T n i : Nat} (K : Kb b D al N T) (hi : i ≤ n + 1) : Fq (D * al ^ n) (5 * (D.natAbs * (N + T) ^ n)) (sumR i fun j => b j * gK b (n - j)) := by
  cases i with
  | zero => exact Fq.zero
  | succ i =>
    have h1 := ker_sum K (n := n) (m := n) (Nat.le_refl _)
    have h2 := ker_sum K (n := n) (m := i) (by omega)
    have h3 : Fq (D * al ^ n) (D.natAbs * (N + T) ^ n) (one0 n) := by
      by_cases z : n = 0
      · subst z
        refine ⟨D, ?_, ?_⟩
        · have : one0 0 = 1 := rfl
          rw [this, Int.pow_zero, Int.mul_one]; grind
        · simp
      · have : one0 n = 0 := if_neg z
        rw [this]; exact Fq.zero
    have e : (sumR (i + 1) fun j => b j * gK b (n - j)) = (one0 n - sumR n fun i => b (i + 1) * gK b (n - 1 - i)) - (one0 n - sumR i fun i => b (i + 1) * gK b (n - 1 - i)) + one0 n := by
      rw [sumR_head]
      have e2 : (sumR i fun j => b (j + 1) * gK b (n - (j + 1))) = sumR i fun i => b (i + 1) * gK b (n - 1 - i) := sumR_congr fun j hj => by
        show b (j + 1) * gK b (n - (j + 1)) = b (j + 1) * gK b (n - 1 - j)
        have : n - (j + 1) = n - 1 - j := by omega
        rw [this]
      rw [e2]
      have e3 := gK_eq b n
      have b0 := K.b0
      have h0 : n - 0 = n := by omega
      rw [h0]
      generalize (sumR n fun i => b (i + 1) * gK b (n - 1 - i)) = S at *
      generalize (sumR i fun i => b (i + 1) * gK b (n - 1 - i)) = S2 at *
      generalize one0 n = o at *
      generalize gK b n = g at *
      grind
    rw [e]
    exact ((h1.sub h2).add h3).mono (by omega)
/-- partial sums of the product of two kernels -/
theorem ker2_sum {b c : Nat → Rat} {D al E be : Int} {N T M S n : Nat} (K : Kb b D al N T) (L : Kb c E be M S) : ∀ i, i ≤ n + 1 → Fq (al ^ (n + 1) * be ^ (n + 1)) (i * ((D.natAbs * (N + T) ^ n) * (E.natAbs * (M + S) ^ n))) (sumR i fun j => gK b j * gK c (n - j))
  | 0, _ => Fq.zero
  | i + 1, h => by
    have lift : ∀ {b : Nat → Rat} {D al : Int} {N T : Nat} (K : Kb b D al N T) (j : Nat), j ≤ n → Fq (al ^ (n + 1)) (D.natAbs * (N + T) ^ n) (gK b j) := fun {b D al N T} K j hj => by
      have := (ker_size K j).lift (al ^ (n - j))
      rw [← Int.pow_add] at this
      have e : j + 1 + (n - j) = n + 1 := by omega
      rw [e] at this
      refine this.mono ?_
      rw [Int.natAbs_pow, Nat.mul_assoc]
      refine Nat.mul_le_mul_left _ ?_
      have h1 : al.natAbs ^ (n - j) ≤ (N + T) ^ (n - j) := Nat.pow_le_pow_left (by have := K.aT; omega) _
      have h2 : (N + T) ^ n = (N + T) ^ j * (N + T) ^ (n - j) := by rw [← Nat.pow_add]; congr 1; omega
      rw [h2]
      exact Nat.mul_le_mul_left _ h1
    have e : (sumR (i + 1) fun j => gK b j * gK c (n - j)) = (sumR i fun j => gK b j * gK c (n - j)) + gK b i * gK c (n - i) := rfl
    rw [e, Nat.succ_mul]
    exact (ker2_sum K L i (by omega)).add ((lift K i (by omega)).mul (lift L (n - i) (by omega)))
end LS
set_option maxHeartbeats 1000000
/-! YA: polynomials as rows: what they come to at a point. -/
namespace LS
open PySem L2
/-- the worth at x + i y, lowest power first -/
def hF (x y : Rat) : (Nat → Rat) → Nat → Rat × Rat
  | _, 0 => (0, 0)
  | f, n + 1 => ((hF x y (fun i => f (i + 1)) n).1 * x - (hF x y (fun i => f (i + 1)) n).2 * y + f 0, (hF x y (fun i => f (i + 1)) n).1 * y + (hF x y (fun i => f (i + 1)) n).2 * x)
theorem hF_congr {x y : Rat} : ∀ {n : Nat} {f g : Nat → Rat}, (∀ i, i < n → f i = g i) → hF x y f n = hF x y g n
  | 0, _, _, _ => rfl
  | n + 1, f, g, h => by
    unfold hF
    rw [hF_congr (n := n) (f := fun i => f (i + 1)) (g := fun i => g (i + 1)) fun i hi => h (i + 1) (by omega), h 0 (by omega)]
theorem hF_zero {x y : Rat} : ∀ {n : Nat} {f : Nat → Rat}, (∀ i, i < n → f i = 0) → hF x y f n = (0, 0)
  | 0, _, _ => rfl
  | n + 1, f, h => by
    unfold hF
    rw [hF_zero (n := n) (f := fun i => f (i + 1)) fun i hi => h (i + 1) (by omega), h 0 (by omega)]
    refine Prod.ext ?_ ?_
    · show (0 : Rat) * x - 0 * y + 0 = 0
      grind
    · show (0 : Rat) * y + 0 * x = 0
      grind
theorem hF_cut {x y : Rat} : ∀ {m n : Nat} {f : Nat → Rat}, m ≤ n → (∀ i, m ≤ i → f i = 0) → hF x y f n = hF x y f m
  | 0, n, f, _, h => hF_zero fun i _ => h i (by omega)
  | m + 1, 0, f, hm, _ => by omega
  | m + 1, n + 1, f, hm, h => by
    unfold hF
    rw [hF_cut (m := m) (n := n) (f := fun i => f (i + 1)) (by omega) fun i hi => h (i + 1) (by omega)]
theorem hF_lin {x y c : Rat} : ∀ {n : Nat} {f g : Nat → Rat}, hF x y (fun i => c * f i + g i) n = (c * (hF x y f n).1 + (hF x y g n).1, c * (hF x y f n).2 + (hF x y g n).2)
  | 0, f, g => by
    refine Prod.ext ?_ ?_
    · show (0 : Rat) = c * 0 + 0
      grind
    · show (0 : Rat) = c * 0 + 0
      grind
  | n + 1, f, g => by
    have h := hF_lin (x := x) (y := y) (c := c) (n := n) (f := fun i => f (i + 1)) (g := fun i => g (i + 1))
    unfold hF
    rw [h]
    refine Prod.ext ?_ ?_
    · simp only
      grind
    · simp only
      grind
theorem hF_add {x y : Rat} {n : Nat} {f g : Nat → Rat} : hF x y (fun i => f i + g i) n = ((hF x y f n).1 + (hF x y g n).1, (hF x y f n).2 + (hF x y g n).2) := by
  have h := hF_lin (x := x) (y := y) (c := 1) (n := n) (f := f) (g := g)
  have e : (fun i => 1 * f i + g i) = fun i => f i + g i := by
    funext i
    grind
  rw [e] at h
  rw [h]
  refine Prod.ext ?_ ?_
  · simp only
    grind
  · simp only
    grind
theorem hF_conv {x y : Rat} {g : Nat → Rat} {m : Nat} (hg : ∀ i, m ≤ i → g i = 0) : ∀ {n : Nat} {f : Nat → Rat}, (∀ i, n ≤ i → f i = 0) → hF x y (conv f g) (n + m) = ((hF x y f n).1 * (hF x y g m).1 - (hF x y f n).2 * (hF x y g m).2, (hF x y f n).1 * (hF x y g m).2 + (hF x y f n).2 * (hF x y g m).1)
  | 0, f, hf => by
    have z : ∀ i, i < 0 + m → conv f g i = 0 := fun i _ => sumR_zero fun j _ => by
      show f j * _ = 0
      rw [hf j (by omega)]
      grind
    rw [hF_zero z]
    refine Prod.ext ?_ ?_
    · show (0 : Rat) = 0 * _ - 0 * _
      grind
    · show (0 : Rat) = 0 * _ + 0 * _
      grind
  | n + 1, f, hf => by
    have ih := hF_conv hg (x := x) (y := y) (n := n) (f := fun i => f (i + 1)) fun i hi => hf (i + 1) (by omega)
    have e : ∀ i, conv f g i = f 0 * g i + shf (conv (fun i => f (i + 1)) g) i := fun i => by
      cases i with
      | zero =>
        rw [conv_zero]
        show _ = f 0 * g 0 + 0
        grind
      | succ i => exact conv_cons
    rw [hF_congr (n := n + 1 + m) fun i _ => e i, hF_lin]
    have e2 : n + 1 + m = (n + m) + 1 := by omega
    have es : hF x y (shf (conv (fun i => f (i + 1)) g)) ((n + m) + 1) = ((hF x y (conv (fun i => f (i + 1)) g) (n + m)).1 * x - (hF x y (conv (fun i => f (i + 1)) g) (n + m)).2 * y + 0, (hF x y (conv (fun i => f (i + 1)) g) (n + m)).1 * y + (hF x y (conv (fun i => f (i + 1)) g) (n + m)).2 * x) := rfl
    have ef : hF x y f (n + 1) = ((hF x y (fun i => f (i + 1)) n).1 * x - (hF x y (fun i => f (i + 1)) n).2 * y + f 0, (hF x y (fun i => f (i + 1)) n).1 * y + (hF x y (fun i => f (i + 1)) n).2 * x) := rfl
    rw [hF_cut (m := m) (n := n + 1 + m) (by omega) hg, e2, es, ih, ef]
    simp only
    generalize (hF x y (fun i => f (i + 1)) n).1 = p1
    generalize (hF x y (fun i => f (i + 1)) n).2 = p2
    generalize (hF x y g m).1 = q1
    generalize (hF x y g m).2 = q2
    refine Prod.ext ?_ ?_
    · simp only
      grind
    · simp only
      grind
theorem Fq.liftN {d : Int} {M : Nat} {q : Rat} (h : Fq d M q) : ∀ n, Fq (d * 60 ^ n) (M * 60 ^ n) q
  | 0 => by simpa using h
  | n + 1 => by
    have := (Fq.liftN h n).lift 60
    rw [Int.mul_assoc, ← Int.pow_succ, Nat.mul_assoc] at this
    rw [Nat.pow_succ]
    exact this
theorem hF_fq {x y : Rat} {d : Int} {M : Nat} (hx : Fq 60 2400 x) (hy : Fq 60 2400 y) : ∀ {n : Nat} {f : Nat → Rat}, (∀ i, Fq d M (f i)) → Fq (d * 60 ^ n) (M * 10000 ^ n) (hF x y f n).1 ∧ Fq (d * 60 ^ n) (M * 10000 ^ n) (hF x y f n).2
  | 0, f, hf => ⟨Fq.zero, Fq.zero⟩
  | n + 1, f, hf => by
    obtain ⟨a, b⟩ := hF_fq hx hy (n := n) (f := fun i => f (i + 1)) fun i => hf (i + 1)
    have e : d * 60 ^ n * 60 = d * 60 ^ (n + 1) := by rw [Int.mul_assoc, ← Int.pow_succ]
    have a1 := a.mul hx
    have a2 := a.mul hy
    have b1 := b.mul hx
    have b2 := b.mul hy
    rw [e] at a1 a2 b1 b2
    have c := (hf 0).liftN (n + 1)
    have p : 60 ^ (n + 1) ≤ 60 * 10000 ^ n := by
      rw [Nat.pow_succ, Nat.mul_comm]
      exact Nat.mul_le_mul_left _ (Nat.pow_le_pow_left (by decide) n)
    have p2 : M * 60 ^ (n + 1) ≤ 60 * (M * 10000 ^ n) := by
      have := Nat.mul_le_mul_left M p
      rw [show M * (60 * 10000 ^ n) = 60 * (M * 10000 ^ n) by rw [Nat.mul_left_comm]] at this
      exact this
    have p3 : M * 10000 ^ (n + 1) = 10000 * (M * 10000 ^ n) := by
      rw [Nat.pow_succ, Nat.mul_comm (10000 ^ n), Nat.mul_left_comm]
    unfold hF
    refine ⟨((a1.sub b2).add c).mono ?_, (a2.add b1).mono ?_⟩
    · rw [p3]; omega
    · rw [p3]; omega
/-! noughts at the end -/
theorem gt0_snoc {l : List Rat} {i : Nat} : gt0 (l ++ [0]) i = gt0 l i := by
  by_cases h : i < l.length
  · rw [gt0_in h, gt0_in (by rw [List.length_append]; omega), List.getElem_append_left h]
  · by_cases e : i = l.length
    · subst e
      rw [gt0_out (l := l) (Nat.le_refl _), gt0_in (by rw [List.length_append]; simp)]
      simp
    · rw [gt0_out (l := l) (by omega), gt0_out (l := l ++ [0]) (by rw [List.length_append, List.length_singleton]; omega)]
theorem trim_ind {Q : List Rat → List Rat → Prop} (h0 : Q [] []) (h1 : ∀ l m, Q l m → Q (l ++ [0]) m) (h2 : ∀ l q, q ≠ 0 → Q (l ++ [q]) (l ++ [q])) : ∀ (n : Nat) (l : List Rat), l.length = n → Q l (trimQ l)
  | 0, l, h => by
    obtain rfl := List.length_eq_zero_iff.mp h
    exact h0
  | n + 1, l, h => by
    rcases List.eq_nil_or_concat l with rfl | ⟨m, q, rfl⟩
    · simp at h
    rw [List.concat_eq_append] at h ⊢
    by_cases hq : q = 0
    · rw [trimQ_snoc0 hq, hq]
      exact h1 _ _ (trim_ind h0 h1 h2 n m (by simpa using h))
    · rw [trimQ_snoc hq]
      exact h2 m q hq
theorem trim_gt0 {l : List Rat} (i : Nat) : gt0 (trimQ l) i = gt0 l i := trim_ind (Q := fun l m => gt0 m i = gt0 l i) rfl (fun l m h => by rw [gt0_snoc, h]) (fun l q _ => rfl) _ l rfl
theorem trim_fun {l : List Rat} : gt0 (trimQ l) = gt0 l := funext fun i => trim_gt0 i
theorem trl_len {l : List Rat} : (trimQ l).length ≤ l.length := trim_ind (Q := fun l m => m.length ≤ l.length) (Nat.le_refl _) (fun l m h => by rw [List.length_append]; omega) (fun l q _ => Nat.le_refl _) _ l rfl
theorem trl_mem {l : List Rat} {q : Rat} : q ∈ trimQ l → q ∈ l := trim_ind (Q := fun l m => q ∈ m → q ∈ l) (fun h => h) (fun l m h hq => List.mem_append_left _ (h hq)) (fun l q _ h => h) _ l rfl
/-- no nought at the end -/
def Tr (l : List Rat) : Prop := l = [] ∨ ∃ m x, l = m ++ [x] ∧ x ≠ 0
theorem trim_tr (l : List Rat) : Tr (trimQ l) := trim_ind (Q := fun _ m => Tr m) (.inl rfl) (fun _ _ h => h) (fun l q h => .inr ⟨l, q, rfl, h⟩) _ l rfl
theorem trim_of {l : List Rat} (h : Tr l) : trimQ l = l := by
  rcases h with rfl | ⟨m, x, rfl, h⟩
  · rfl
  · exact trimQ_snoc h
theorem trim_range {f : Nat → Rat} {m : Nat} (h : ∀ i, m ≤ i → f i = 0) : ∀ k, trimQ ((List.range (m + k)).map f) = trimQ ((List.range m).map f)
  | 0 => rfl
  | k + 1 => by
    rw [show m + (k + 1) = (m + k) + 1 by omega, List.range_succ, List.map_append]
    show trimQ (_ ++ [f (m + k)]) = _
    rw [trimQ_snoc0 (h _ (by omega))]
    exact trim_range h k
theorem trim_range2 {f : Nat → Rat} {m n : Nat} (h : ∀ i, m ≤ i → f i = 0) (hn : m ≤ n) : trimQ ((List.range n).map f) = trimQ ((List.range m).map f) := by
  have := trim_range h (n - m)
  rw [show m + (n - m) = n by omega] at this
  exact this
theorem gt0_rangeF {f : Nat → Rat} {n : Nat} (h : ∀ i, n ≤ i → f i = 0) : gt0 ((List.range n).map f) = f := funext fun i => by
  by_cases hi : i < n
  · exact gt0_range hi
  · rw [gt0_out (by rw [List.length_map, List.length_range]; omega), h i (by omega)]
def sumT (l m : List Rat) : List Rat := trimQ ((List.range (max l.length m.length)).map fun i => gt0 l i + gt0 m i)
def prodT (l m : List Rat) : List Rat := trimQ ((List.range (l.length + m.length)).map (conv (gt0 l) (gt0 m)))
theorem sumT_out {l m : List Rat} {i : Nat} (h : max l.length m.length ≤ i) : gt0 l i + gt0 m i = 0 := by
  rw [gt0_out (by omega), gt0_out (by omega)]
  grind
theorem prodT_out {l m : List Rat} {i : Nat} (h : l.length + m.length ≤ i + 1) : conv (gt0 l) (gt0 m) i = 0 := conv_out (fun i h => gt0_out h) (fun i h => gt0_out h) h
theorem sumT_comm {l m : List Rat} : sumT l m = sumT m l := by
  unfold sumT
  rw [Nat.max_comm]
  congr 1
  exact List.map_congr_left fun i _ => by grind
theorem prodT_comm {l m : List Rat} : prodT l m = prodT m l := by
  unfold prodT
  rw [Nat.add_comm]
  congr 1
  exact List.map_congr_left fun i _ => conv_comm
theorem sumT_gt {l m : List Rat} : gt0 (sumT l m) = fun i => gt0 l i + gt0 m i := by
  unfold sumT
  rw [trim_fun, gt0_rangeF fun i h => sumT_out h]
theorem prodT_gt {l m : List Rat} : gt0 (prodT l m) = conv (gt0 l) (gt0 m) := by
  unfold prodT
  rw [trim_fun, gt0_rangeF fun i h => prodT_out (by omega)]
def wL (x y : Rat) (l : List Rat) : Rat × Rat := hF x y (gt0 l) l.length
theorem wL_ge {x y : Rat} {l : List Rat} {n : Nat} (h : l.length ≤ n) : wL x y l = hF x y (gt0 l) n := (hF_cut h fun i hi => gt0_out hi).symm
theorem sumT_len {l m : List Rat} : (sumT l m).length ≤ max l.length m.length := by
  refine Nat.le_trans trl_len ?_
  rw [List.length_map, List.length_range]
  exact Nat.le_refl _
theorem prodT_len {l m : List Rat} : (prodT l m).length ≤ l.length + m.length := by
  refine Nat.le_trans trl_len ?_
  rw [List.length_map, List.length_range]
  exact Nat.le_refl _
theorem wL_sum {x y : Rat} {l m : List Rat} : wL x y (sumT l m) = ((wL x y l).1 + (wL x y m).1, (wL x y l).2 + (wL x y m).2) := by
  rw [wL_ge sumT_len, sumT_gt, hF_add, wL_ge (l := l) (Nat.le_max_left _ _), wL_ge (l := m) (Nat.le_max_right _ _)]
theorem wL_prod {x y : Rat} {l m : List Rat} : wL x y (prodT l m) = ((wL x y l).1 * (wL x y m).1 - (wL x y l).2 * (wL x y m).2, (wL x y l).1 * (wL x y m).2 + (wL x y l).2 * (wL x y m).1) := by
  rw [wL_ge prodT_len, prodT_gt]
  exact hF_conv (fun i h => gt0_out h) fun i h => gt0_out h
end LS
set_option maxHeartbeats 1000000
/-! YB: what is a polynomial, asked of anything. -/
namespace LS
open PySem L2
def poB : D → Bool
  | .tup l => l.all fB && (decide (l = []) || topB (.tup l))
  | _ => false
theorem shp_fBs : ∀ {l : List D}, l.all fB = true → D.pureL l = true ∧ PyData.canLayAll0 (D.pyL l) = true ∧ PyData.depthAll (D.pyL l) ≤ 1
  | [], _ => by simp [D.pureL, D.pyL, PyData.canLayAll0, PyData.depthAll]
  | x :: l, h => by
    have h' : fB x = true ∧ l.all fB = true := by simpa using h
    obtain ⟨a, b, c⟩ := shp_fBs h'.2
    obtain ⟨p, q, rfl⟩ := fr_of h'.1
    refine ⟨?_, ?_, ?_⟩
    · simp [D.pureL, a, D.pure]
    · simp [D.pyL, D.py, PyData.canLayAll0, PyData.canLay0, b]
    · simp [D.pyL, D.py, PyData.depthAll, PyData.depth]
      omega
theorem shp_fBt {l : List D} (h : l.all fB = true) : (D.tup l).shp = true := by
  obtain ⟨a, b, c⟩ := shp_fBs h
  unfold D.shp SeqAt.shaped
  simp only [D.pure, D.py, PyData.canLay0, PyData.depth, a, b, Bool.true_and, decide_eq_true_eq]
  omega
theorem c_tnilE {l : List D} (h : l.all fB = true) : cmpF .eq (.tup l) (.tup []) = some (.bl (decide (l = []))) := by
  cases l with
  | nil =>
    have e : eqD (.tup []) (.tup []) = some true := by
      unfold eqD
      rw [show (D.tup []).shp = true from rfl]
      simp [D.py, D.pyL, PyData.eqv, PyData.eqvAll]
    show (eqX (.tup []) (.tup [])).map D.bl = _
    rw [eqX_of e]
    rfl
  | cons x l =>
    rw [c_tnil (shp_fBt h) (by simp)]
    simp
theorem last1_of {l : List D} (h : l.all fB = true) (hl : l ≠ []) : ∃ m a b, l = m ++ [.tup [.int a, .int b]] ∧ fB (.tup [.int a, .int b]) = true ∧ topB (.tup l) = decide (a ≠ 0) := by
  rcases List.eq_nil_or_concat l with rfl | ⟨m, x, rfl⟩
  · exact absurd rfl hl
  rw [List.concat_eq_append] at h ⊢
  have hx : fB x = true := by
    rw [List.all_append, Bool.and_eq_true] at h
    simpa using h.2
  obtain ⟨a, b, rfl⟩ := fr_of hx
  refine ⟨m, a, b, rfl, hx, ?_⟩
  show (match (m ++ [D.tup [.int a, .int b]]).getLast? with
    | some (.tup (.int a :: _)) => decide (a ≠ 0)
    | _ => false) = _
  rw [List.getLast?_concat]
section
variable {C : CallT} {G : Nat → Option D} {a b : E} {env : EnD} {d : D} {p q : Bool}
theorem or_ev (ha : ev C G a env = some (.bl p, env)) (hb : p = false → ev C G b env = some (.bl q, env)) : ev C G (.or a b) env = some (.bl (p || q), env) := by
  simp only [ev]
  rw [ha]
  cases p with
  | true => simp [s_bl]
  | false =>
    simp only [Option.bind_some, s_bl, Bool.false_eq_true, if_false, Bool.false_or]
    exact hb rfl
end
structure Kp0 (P : Prg) : Prop extends Kr P where
  f25 : P.fn 25 = some F25
  f26 : P.fn 26 = some F26
  g0 : P.gl 0 = some (frD 0)
theorem partsAny {P : Prg} (K : Kp0 P) (k : Nat) {d : D} (hd : d.any = true) : run P (k + 5) 26 [d] = some (.bl (poB d), []) := by
  refine run_at (fl := .rt (.bl (poB d))) (e := [some d]) K.f26 rfl ?_ rfl (.inl rfl)
  show exL (run P (k + 4)) P.gl F26.body [some d] = _
  have v0 : ev (run P (k + 4)) P.gl (.v 0) [some d] = some (d, [some d]) := v_ev rfl
  have t1 := ev_call1 v0 (rowAny K.toKr K.f25 k hd)
  cases h : rowB d with
  | false =>
    have e : poB d = false := by
      cases d with
      | tup l =>
        have h' : l.all fB = false := h
        show (l.all fB && _) = false
        rw [h']; rfl
      | _ => rfl
    rw [h] at t1
    rw [e]
    exact ret_at (and_f t1)
  | true =>
    obtain ⟨l, rfl, hl⟩ := row_of h
    rw [h] at t1
    have e : poB (.tup l) = (decide (l = []) || topB (.tup l)) := by
      show (l.all fB && _) = _
      rw [hl]; rfl
    rw [e]
    have tn : ev (run P (k + 4)) P.gl (.tup .nil) [some (.tup l)] = some (.tup [], [some (.tup l)]) := by simp only [ev, evL, Option.map_some]
    refine ret_at (and_t t1 (or_ev (cmp_ev v0 tn (c_tnilE hl)) fun hn => ?_))
    have hn := of_decide_eq_false hn
    obtain ⟨m, a, b, rfl, hf, ht⟩ := last1_of hl hn
    rw [ht]
    refine cmp_ev (ixm_ev v0 ixt_last) ?_ (ne0_fr hf)
    simp only [ev, K.g0, Option.map_some]
theorem lawIsPoly {P : Prg} (L : Li0 P) (h : P.fn 196 = some F196) (k : Nat) {d : D} (hd : d.any = true) : run P (k + 4) 196 [d] = some (.bl (poB d), []) := by
  refine run_at (fl := .rt (.bl (poB d))) (e := [some d]) h rfl ?_ rfl (.inl rfl)
  show exL (run P (k + 3)) P.gl F196.body [some d] = _
  have v0 : ev (run P (k + 3)) P.gl (.v 0) [some d] = some (d, [some d]) := v_ev rfl
  have t1 := ev_call1 v0 (lawIsRow L k hd)
  cases h : rowB d with
  | false =>
    have e : poB d = false := by
      cases d with
      | tup l =>
        have h' : l.all fB = false := h
        show (l.all fB && _) = false
        rw [h']; rfl
      | _ => rfl
    rw [h] at t1
    rw [e]
    exact ret_at (and_f t1)
  | true =>
    obtain ⟨l, rfl, hl⟩ := row_of h
    rw [h] at t1
    have e : poB (.tup l) = (decide (l = []) || topB (.tup l)) := by
      show (l.all fB && _) = _
      rw [hl]; rfl
    rw [e]
    have tn : ev (run P (k + 3)) P.gl (.tup .nil) [some (.tup l)] = some (.tup [], [some (.tup l)]) := by simp only [ev, evL, Option.map_some]
    refine ret_at (and_t t1 (or_ev (cmp_ev v0 tn (c_tnilE hl)) fun hn => ?_))
    have hn := of_decide_eq_false hn
    obtain ⟨m, a, b, rfl, hf, ht⟩ := last1_of hl hn
    rw [ht]
    exact cmp_ev (ix_ev (ixm_ev v0 ixt_last) ixt0) int_ev (by rw [c_nei]; simp)
theorem poB_fr {l : List Rat} (h : Tr l) : poB (.tup (l.map frD)) = true := by
  have r : (l.map frD).all fB = true := rowB_fr
  show ((l.map frD).all fB && _) = true
  rw [r, Bool.true_and]
  rcases h with rfl | ⟨m, x, rfl, hx⟩
  · rfl
  · have : topB (.tup ((m ++ [x]).map frD)) = true := by
      rw [map_snoc]
      show (match (m.map frD ++ [frD x]).getLast? with
        | some (.tup (.int a :: _)) => decide (a ≠ 0)
        | _ => false) = _
      rw [List.getLast?_concat]
      exact decide_eq_true fun z => hx (Rat.num_eq_zero.mp z)
    rw [this, Bool.or_true]
theorem check_poly {P : Prg} (K : Kp0 P) (h74 : P.fn 74 = some F74) (k : Nat) {l : List Rat} (h : Tr l) (hl : l.length ≤ 1000) : run P (k + 6) 74 [.tup (l.map frD)] = some (.non, []) := by
  refine run_at (fl := .nx) (e := [some (.tup (l.map frD))]) h74 rfl ?_ rfl (.inl rfl)
  have c := call_tst (C := run P (k + 5)) (G := P.gl) (v_ev (i := 0) (env := [some (.tup (l.map frD))]) rfl) (partsAny K k (any_rowE hl))
  rw [poB_fr h] at c
  exact nx_at (ifs_no (not_b c)) (by simp only [exL])
end LS
set_option maxHeartbeats 1000000
/-! XB0: the package's sum; loops with two names. -/
namespace LS
open PySem L2
theorem kitAdd {P : Prg} (K : Kd P) (h3 : P.fn 11 = some F11) (k : Nat) {a b : Rat} {n m : Nat} (ha : Sz n a) (hb : Sz m b) (hn : n ≤ 3900) (hm : m ≤ 3900) : run P (k + 3) 11 [frD a, frD b] = some (frD (a + b), []) := by
  obtain ⟨_, s2, s3, _⟩ := sm_num ha hb hn hm
  obtain ⟨_, _, s4, _⟩ := sm_num hb ha hm hn
  have hz : ((a.den : Int) * (b.den : Int)).natAbs < 2 ^ 8000 := by
    rw [Int.natAbs_mul, Int.natAbs_natCast, Int.natAbs_natCast]
    refine Nat.lt_of_lt_of_le (Nat.mul_lt_mul'' ha.2 hb.2) ?_
    rw [← Nat.pow_add]
    exact Nat.pow_le_pow_right (by decide) (by omega)
  have hd : (a.den : Int) * (b.den : Int) ≠ 0 := by
    have := a.den_pos
    have := b.den_pos
    exact Int.mul_ne_zero (by omega) (by omega)
  have e := ratioWith K k (a := a.num * b.den + b.num * a.den) hd hz
  rw [div_add] at e
  refine run_at (fl := .rt (frD (a + b))) (e := [some (frD a), some (frD b)]) h3 rfl ?_ rfl (.inl rfl)
  show exL (run P (k + 2)) P.gl F11.body [some (frD a), some (frD b)] = _
  unfold frD at e ⊢
  simp only [F11, exL, exS, ev, evA, fillA, outA, lentA, g_at, ixt0, ixt1, o_mul s2, o_mul s3, o_mul s4, o_add, e, Option.bind_some, Option.map_some, List.getElem?_cons_zero, List.getElem?_cons_succ, Option.join_some, Bool.false_and, Bool.false_eq_true, if_false]
theorem for_relT {body : EnD → Option (Fl × EnD)} {t : T} : ∀ {ds : List D} {I : Nat → EnD → Prop} {env : EnD}, I 0 env → (∀ i (h : i < ds.length) env, I i env → ∃ e1 env', asgT t ds[i] env = some e1 ∧ body e1 = some (.nx, env') ∧ I (i + 1) env') → ∃ env', forL body t ds env = some (.nx, env') ∧ I ds.length env'
  | [], I, env, h0, _ => ⟨env, by unfold forL; rfl, h0⟩
  | d :: ds, I, env, h0, hb => by
    obtain ⟨e1, e2, ha, h1, h2⟩ := hb 0 (by simp) env h0
    obtain ⟨e3, h3, h4⟩ := for_relT (body := body) (t := t) (ds := ds) (I := fun i => I (i + 1)) (env := e2) h2 (fun i h env hi => hb (i + 1) (by rw [List.length_cons]; omega) env hi)
    refine ⟨e3, ?_, h4⟩
    unfold forL
    rw [show (d :: ds)[0] = d from rfl] at ha
    rw [ha]
    simp only [Option.bind_some]
    rw [h1]
    simp only [Option.bind_some]
    exact h3
end LS
set_option maxHeartbeats 1000000
/-! VL: the package's rows of fractions. -/
namespace LS
open PySem L2
theorem frs_ok {P : Prg} (K : Kr P) (h : P.fn 25 = some F25) (k : Nat) {l : List Rat} (hl : l.length ≤ 1000000) : run P (k + 4) 25 [.tup (l.map frD)] = some (.bl true, []) := by
  refine run_at (fl := .rt (.bl true)) (e := [some (.tup (l.map frD)), none]) h rfl ?_ rfl (.inl rfl)
  show exL (run P (k + 3)) P.gl F25.body [some (.tup (l.map frD)), none] = _
  have hc := lc_ev (C := run P (k + 3)) (G := P.gl) (elt := .call 9 (.val (.v 1) .nil)) (i := 1) (it := .seq (.v 0)) (env := [some (.tup (l.map frD)), none]) (ds := l.map frD) (g := fun _ => .bl true) (by
    simp only [evI, ev, g_at, seqOf, Option.bind_some, Option.map_some, List.getElem?_cons_zero, Option.join_some]) (by rw [List.length_map]; exact hl) (by simp) (by
    intro d hd
    obtain ⟨q, _, rfl⟩ := List.mem_map.mp hd
    simp only [ev, evA, fillA, outA, lentA, g_at, ratio_ok K k, Option.bind_some, Option.map_some, List.getElem?_cons_zero, List.getElem?_cons_succ, Option.join_some, Bool.false_and, Bool.false_eq_true, if_false, List.set_cons_zero, List.set_cons_succ])
  have hb : biF .all [.lst ((l.map frD).map fun _ => D.bl true)] = some (.bl true) := b_all _
  exact ret_at (and_t (e1 := [some (.tup (l.map frD)), none]) (by simp only [ev, g_at, isi_tup, Option.bind_some, Option.map_some, List.getElem?_cons_zero, Option.join_some]) (ev_bi1 hc hb))
abbrev wC : E := (.and (.cmp .ne (.v 1) (.lst .nil)) (.cmp .eq (.ix (.v 1) (.neg (.int 1))) (.g 0)))
abbrev wB : SL := (.cons (.pop 1) .nil)
theorem wn_turns {C : CallT} {G : Nat → Option D} (hG : G 0 = some (frD 0)) {x : Option D} : ∀ (n : Nat) (l : List Rat), l.length = n → whL (fun e => tst C G wC e) (fun e => exL C G wB e) [x, some (.lst (l.map frD))] = some (.nx, [x, some (.lst ((trimQ l).map frD))])
  | 0, l, h => by
    obtain rfl := List.length_eq_zero_iff.mp h
    rw [whL_eq]
    have e : cmpF .ne (.lst []) (.lst []) = some (.bl false) := c_nel (l := [])
    simp only [wC, tst, ev, evL, g_at, e, s_bl, List.map_nil, Option.bind_some, Option.map_some, List.getElem?_cons_zero, List.getElem?_cons_succ, Option.join_some, Bool.false_eq_true, if_false]
    rfl
  | n + 1, l, h => by
    rcases List.eq_nil_or_concat l with rfl | ⟨m, q, rfl⟩
    · simp at h
    rw [List.concat_eq_append] at h ⊢
    have hm : m.length = n := by simpa using h
    have hc : tst C G wC [x, some (.lst ((m ++ [q]).map frD))] = some (decide (q = 0), [x, some (.lst ((m ++ [q]).map frD))]) := by
      have e : cmpF .ne (.lst ((m ++ [q]).map frD)) (.lst []) = some (.bl true) := by rw [c_nel]; simp
      rw [map_snoc] at e ⊢
      simp only [wC, tst, ev, evL, g_at, e, hG, s_bl, if_true, Option.bind_some, Option.map_some, List.getElem?_cons_zero, List.getElem?_cons_succ, Option.join_some, ixl_last, c_eqfr]
    rw [whL_eq, hc]
    simp only [Option.bind_some]
    by_cases hq : q = 0
    · rw [if_pos (decide_eq_true hq)]
      have hb : exL C G wB [x, some (.lst ((m ++ [q]).map frD))] = some (.nx, [x, some (.lst (m.map frD))]) := by
        rw [map_snoc]
        have e : ¬ (m.map frD ++ [frD q] = []) := by simp
        simp only [wB, exL, exS, g_at, if_neg e, List.dropLast_concat, Option.bind_some, Option.map_some, List.getElem?_cons_zero, List.getElem?_cons_succ, Option.join_some, List.set_cons_zero, List.set_cons_succ]
      rw [hb]
      simp only [Option.bind_some]
      rw [wn_turns hG n m hm, trimQ_snoc0 hq]
    · rw [decide_eq_false hq, trimQ_snoc hq]
      rfl
/-- without_noughts -/
theorem kitTrim {P : Prg} (h : P.fn 27 = some F27) (hG : P.gl 0 = some (frD 0)) (k : Nat) {l : List Rat} {d : D} (hd : biF .list [d] = some (.lst (l.map frD))) : run P (k + 1) 27 [d] = some (.tup ((trimQ l).map frD), []) := by
  refine run_at (fl := .rt (.tup ((trimQ l).map frD))) (e := [some d, some (.lst ((trimQ l).map frD))]) h rfl ?_ rfl (.inl rfl)
  have e := wn_turns (C := run P k) (G := P.gl) hG (x := some d) _ l rfl
  show exL (run P k) P.gl F27.body [some d, none] = _
  refine nx_at (env' := [some d, some (.lst (l.map frD))]) ?_ (nx_at (env' := [some d, some (.lst ((trimQ l).map frD))]) ?_ (ret_at ?_))
  · simp only [exS, ev, evL, g_at, hd, Option.bind_some, Option.map_some, List.getElem?_cons_zero, Option.join_some, List.set_cons_zero, List.set_cons_succ]
  · unfold exS
    exact e
  · simp only [ev, evL, g_at, b_tuple, Option.bind_some, Option.map_some, List.getElem?_cons_zero, List.getElem?_cons_succ, Option.join_some]
structure Kpp (P : Prg) : Prop extends Kd P where
  f13 : P.fn 13 = some F13
  f14 : P.fn 14 = some F14
  f25 : P.fn 25 = some F25
  f27 : P.fn 27 = some F27
  f29 : P.fn 29 = some F29
  g0 : P.gl 0 = some (frD 0)
  g1 : P.gl 1 = some (frD 1)
/-- parts_scaled -/
theorem kitScale {P : Prg} (K : Kpp P) (k : Nat) {l : List Rat} {c : Rat} {n m : Nat} (ha : ∀ q ∈ l, Sz n q) (hb : Sz m c) (hn : n ≤ 3900) (hm : m ≤ 3900) (hl : l.length ≤ 1000000) : run P (k + 4) 29 [.tup (l.map frD), frD c] = some (.tup ((trimQ (l.map (· * c))).map frD), []) := by
  refine run_at (fl := .rt _) (e := [some (.tup (l.map frD)), some (frD c), none]) K.f29 rfl ?_ rfl (.inl rfl)
  show exL (run P (k + 3)) P.gl F29.body [some (.tup (l.map frD)), some (frD c), none] = _
  let g : D → D := fun d => match d with
    | .tup [.int a, .int b] => frD (Rat.divInt a b * c)
    | d => d
  have hg : ∀ q, g (frD q) = frD (q * c) := fun q => by
    show frD (Rat.divInt q.num q.den * c) = _
    rw [Rat.num_divInt_den]
  have hc := lc_ev (C := run P (k + 3)) (G := P.gl) (elt := .call 13 (.val (.v 2) (.val (.v 1) .nil))) (i := 2) (it := .seq (.v 0)) (env := [some (.tup (l.map frD)), some (frD c), none]) (ds := l.map frD) (g := g) (by
    simp only [evI, ev, g_at, seqOf, Option.bind_some, Option.map_some, List.getElem?_cons_zero, Option.join_some]) (by rw [List.length_map]; exact hl) (by simp) (by
    intro d hd
    obtain ⟨q, hq, rfl⟩ := List.mem_map.mp hd
    rw [hg]
    simp only [ev, evA, fillA, outA, lentA, g_at, kitMul K.toKd K.f13 k (ha q hq) hb hn hm, Option.bind_some, Option.map_some, List.getElem?_cons_zero, List.getElem?_cons_succ, Option.join_some, Bool.false_and, Bool.false_eq_true, if_false, List.set_cons_zero, List.set_cons_succ])
  have hz : (l.map frD).map g = (l.map (· * c)).map frD := by
    rw [List.map_map, List.map_map]
    exact List.map_congr_left fun q _ => hg q
  rw [hz] at hc
  have ht := kitTrim K.f27 K.g0 (k + 2) (l := l.map (· * c)) (d := .lst ((l.map (· * c)).map frD)) rfl
  exact ret_at (ev_call1 hc ht)
end LS
set_option maxHeartbeats 1000000
/-! YC: sums of polynomials, the law's and the package's. -/
namespace LS
open PySem L2
theorem em_rng {n : Nat} {h : Nat → Rat} : (rng 0 n).map (natF h) = ((List.range n).map h).map frD := by
  show ((List.range n).map fun i => D.int (0 + (i : Nat))).map (natF h) = _
  rw [List.map_map, List.map_map]
  refine List.map_congr_left fun j _ => ?_
  show natF h (.int (0 + (j : Nat))) = frD (h j)
  rw [Int.zero_add]
  rfl
theorem rng_inY {n : Nat} {d : D} (h : d ∈ rng 0 n) : ∃ i : Nat, d = .int (i : Int) ∧ i < n := by
  obtain ⟨i, hi, e⟩ := List.mem_map.mp (show d ∈ (List.range n).map fun i => D.int (0 + (i : Nat)) from h)
  exact ⟨i, by rw [← e, Int.zero_add], List.mem_range.mp hi⟩
def fnY (f : Rat → Rat) (d : D) : D := match d with
  | .tup [.int a, .int b] => frD (f (Rat.divInt a b))
  | d => d
theorem fnY_fr {f : Rat → Rat} {q : Rat} : fnY f (frD q) = frD (f q) := by
  show frD (f (Rat.divInt q.num q.den)) = _
  rw [Rat.num_divInt_den]
theorem map_fnY {f : Rat → Rat} {l : List Rat} : (l.map frD).map (fnY f) = (l.map f).map frD := by
  rw [List.map_map, List.map_map]
  exact List.map_congr_left fun q _ => fnY_fr
/-- a comprehension over range(n) -/
theorem rngl_lc {C : CallT} {G : Nat → Option D} {env : EnD} {j n : Nat} {e i : E} {h : Nat → Rat} (hi : ev C G i env = some (.int (n : Int), env)) (hn : n ≤ 1000) (hj : j < env.length) (he : ∀ k : Nat, k < n → ev C G e (env.set j (some (.int (k : Int)))) = some (frD (h k), env.set j (some (.int (k : Int))))) : ev C G (.lc e (.n j) (.rng1 i) [j]) env = some (.lst (((List.range n).map h).map frD), env) := by
  rw [← em_rng]
  refine lc_ev (ds := rng 0 n) (g := natF h) (rng1_at (n := n) hi hn) (by rw [rng_len]; omega) hj ?_
  intro d hd
  obtain ⟨k, rfl, hk⟩ := rng_inY hd
  exact he k hk
theorem padE {l : List Rat} {N : Nat} (h : l.length ≤ N) : l.map frD ++ List.replicate (N - l.length) (frD 0) = ((List.range N).map (gt0 l)).map frD := by
  refine List.ext_getElem ?_ fun i h1 h2 => ?_
  · simp
    omega
  · rw [List.getElem_map, List.getElem_map, List.getElem_range, List.getElem_append]
    split
    · rename_i hi
      rw [List.length_map] at hi
      rw [List.getElem_map, gt0_in hi]
    · rename_i hi
      rw [List.length_map] at hi
      rw [List.getElem_replicate, gt0_out (by omega)]
theorem o_lstS {l m : List D} (h1 : l.length ≤ 3000) (h2 : m.length ≤ 3000) : opF .add (.lst l) (.lst m) = some (.lst (l ++ m)) := by
  refine o_lst ?_
  have z : sizeLine = 16777216 := by decide
  omega
/-- a row, filled up with noughts -/
theorem padD2 {l : List Rat} {N : Nat} (h : l.length ≤ N) (hN : N ≤ 1000) : opF .mul (.lst [frD 0]) (.int ((N : Int) - (l.length : Int))) = some (.lst (List.replicate (N - l.length) (frD 0))) ∧ opF .add (.lst (l.map frD)) (.lst (List.replicate (N - l.length) (frD 0))) = some (.lst (((List.range N).map (gt0 l)).map frD)) := by
  constructor
  · rw [o_lrep (by omega) (by omega)]
    have : ((N : Int) - (l.length : Int)).toNat = N - l.length := by omega
    rw [this]
  · rw [o_lstS (by rw [List.length_map]; omega) (by rw [List.length_replicate]; omega), padE h]
theorem max_int {p q : Nat} : (if (q : Int) > (p : Int) then (q : Int) else (p : Int)) = ((max p q : Nat) : Int) := by
  by_cases h : (q : Int) > (p : Int)
  · rw [if_pos h]; omega
  · rw [if_neg h]; omega
structure Lp00 (P : Prg) : Prop extends Lt0 P where
  s189 : P.fn 189 = some F189
structure Lp0 (P : Prg) : Prop extends Lp00 P where
  s190 : P.fn 190 = some F190
theorem lawPlus {P : Prg} (L : Lp00 P) (k : Nat) {l m : List Rat} {n1 n2 : Nat} (hl : ∀ i, Sz n1 (gt0 l i)) (hm : ∀ i, Sz n2 (gt0 m i)) (b1 : n1 ≤ 3900) (b2 : n2 ≤ 3900) (ll : l.length ≤ 100) (ml : m.length ≤ 100) : run P (k + 4) 189 [.tup (l.map frD), .tup (m.map frD)] = some (.tup ((sumT l m).map frD), []) := by
  let N := max l.length m.length
  have hN1 : l.length ≤ N := Nat.le_max_left _ _
  have hN2 : m.length ≤ N := Nat.le_max_right _ _
  have hN : N ≤ 100 := Nat.max_le.mpr ⟨ll, ml⟩
  let A : D := .lst (((List.range N).map (gt0 l)).map frD)
  let B : D := .lst (((List.range N).map (gt0 m)).map frD)
  obtain ⟨p1, p2⟩ := padD2 hN1 (by omega)
  obtain ⟨q1, q2⟩ := padD2 hN2 (by omega)
  have e0 : D.tup [.int 0, .int 1] = frD 0 := rfl
  refine run_at (fl := .rt _) (e := [some A, some B, some (.int (N : Int)), none]) L.s189 rfl ?_ rfl (.inl rfl)
  show exL (run P (k + 3)) P.gl F189.body [some (.tup (l.map frD)), some (.tup (m.map frD)), none, none] = _
  refine nx_at (env' := [some (.tup (l.map frD)), some (.tup (m.map frD)), some (.int (N : Int)), none]) (asg_at (d := .int (N : Int)) (env' := [some (.tup (l.map frD)), some (.tup (m.map frD)), none, none]) ?_ rfl) (nx_at (env' := [some A, some (.tup (m.map frD)), some (.int (N : Int)), none]) (asg_at (d := A) (env' := [some (.tup (l.map frD)), some (.tup (m.map frD)), some (.int (N : Int)), none]) ?_ rfl) (nx_at (env' := [some A, some B, some (.int (N : Int)), none]) (asg_at (d := B) (env' := [some A, some (.tup (m.map frD)), some (.int (N : Int)), none]) ?_ rfl) (ret_at (ev_call1 (rngl_lc (n := N) (h := fun i => gt0 l i + gt0 m i) (v_ev rfl) (by omega) (by simp) ?_) (trimD L.s188 (k + 2) rfl)))))
  · simp only [ev, evL, g_at, b_lent, List.length_map, b_max2', max_int, Option.bind_some, Option.map_some, List.getElem?_cons_zero, List.getElem?_cons_succ, Option.join_some]
    rfl
  · simp only [ev, evL, g_at, b_listt, b_lent, List.length_map, o_sub, e0, p1, p2, Option.bind_some, Option.map_some, List.getElem?_cons_zero, List.getElem?_cons_succ, Option.join_some]
    rfl
  · simp only [ev, evL, g_at, b_listt, b_lent, List.length_map, o_sub, e0, q1, q2, Option.bind_some, Option.map_some, List.getElem?_cons_zero, List.getElem?_cons_succ, Option.join_some]
    rfl
  · intro i hi
    have y1 : ixF A (.int (i : Int)) = some (frD (gt0 l i)) := by
      have := ixl_fr (l := (List.range N).map (gt0 l)) (z := (i : Int)) (by omega) (by rw [List.length_map, List.length_range]; omega)
      rw [this, Int.toNat_natCast, gt0_range hi]
    have y2 : ixF B (.int (i : Int)) = some (frD (gt0 m i)) := by
      have := ixl_fr (l := (List.range N).map (gt0 m)) (z := (i : Int)) (by omega) (by rw [List.length_map, List.length_range]; omega)
      rw [this, Int.toNat_natCast, gt0_range hi]
    have p3 := lawAdd L.s171 L.s172 L.s185 k (hl i) (hm i) b1 b2
    simp only [ev, evA, fillA, outA, lentA, g_at, y1, y2, p3, Option.bind_some, Option.map_some, List.getElem?_cons_zero, List.getElem?_cons_succ, Option.join_some, Bool.false_and, Bool.false_eq_true, if_false, List.set_cons_zero, List.set_cons_succ]
/-- a row times a number -/
theorem lawBy {P : Prg} (L : Lp0 P) (k : Nat) {l : List Rat} {x : Rat} {n1 n2 : Nat} (hl : ∀ q ∈ l, Sz n1 q) (hx : Sz n2 x) (b1 : n1 ≤ 3900) (b2 : n2 ≤ 3900) (ll : l.length ≤ 1000) : run P (k + 4) 190 [.tup (l.map frD), frD x] = some (.tup ((trimQ (l.map (· * x))).map frD), []) := by
  refine run_at (fl := .rt _) (e := [some (.tup (l.map frD)), some (frD x), none]) L.s190 rfl ?_ rfl (.inl rfl)
  show exL (run P (k + 3)) P.gl F190.body [some (.tup (l.map frD)), some (frD x), none] = _
  refine ret_at (ev_call1 (d := .lst ((l.map (· * x)).map frD)) ?_ (trimD L.s188 (k + 2) rfl))
  have e : (l.map frD).map (fnY (· * x)) = (l.map (· * x)).map frD := map_fnY
  rw [← e]
  refine lc_ev (ds := l.map frD) (g := fnY (· * x)) ?_ (by rw [List.length_map]; omega) (by simp) ?_
  · simp only [evI, ev, g_at, seqOf, Option.bind_some, Option.map_some, List.getElem?_cons_zero, Option.join_some]
  · intro d hd
    obtain ⟨q, hq, rfl⟩ := List.mem_map.mp hd
    rw [fnY_fr]
    have p3 := lawMul L.s171 L.s172 L.s187 k (hl q hq) hx b1 b2
    simp only [ev, evA, fillA, outA, lentA, g_at, p3, Option.bind_some, Option.map_some, List.getElem?_cons_zero, List.getElem?_cons_succ, Option.join_some, Bool.false_and, Bool.false_eq_true, if_false, List.set_cons_zero, List.set_cons_succ]
/-! the package's sum -/
theorem zip_map {α : Type} {a b : α → D} : ∀ {xs : List α}, zipF (xs.map a) (xs.map b) = xs.map fun x => D.tup [a x, b x]
  | [] => rfl
  | x :: xs => by
    show D.tup [a x, b x] :: zipF (xs.map a) (xs.map b) = _
    rw [zip_map]
    rfl
theorem lc28 {elt : EnD → Option (D × EnD)} {α : Type} {a b g : α → D} {e0 e1 e2 e3 e4 : Option D} : ∀ {xs : List α} {x y : Option D}, (∀ z ∈ xs, elt [e0, e1, e2, e3, e4, some (a z), some (b z)] = some (g z, [e0, e1, e2, e3, e4, some (a z), some (b z)])) → ∃ x' y', lcL elt (.t [.n 5, .n 6]) [5, 6] (xs.map fun z => D.tup [a z, b z]) [e0, e1, e2, e3, e4, x, y] = some (xs.map g, [e0, e1, e2, e3, e4, x', y'])
  | [], x, y, _ => ⟨x, y, by unfold lcL; rfl⟩
  | z :: xs, x, y, h => by
    obtain ⟨x', y', hy⟩ := lc28 (xs := xs) (x := some (a z)) (y := some (b z)) fun w hw => h w (List.mem_cons_of_mem _ hw)
    refine ⟨x', y', ?_⟩
    show lcL elt (.t [.n 5, .n 6]) [5, 6] (D.tup [a z, b z] :: xs.map fun z => D.tup [a z, b z]) _ = _
    unfold lcL
    have e1' : asgT (.t [.n 5, .n 6]) (.tup [a z, b z]) (wipeE [e0, e1, e2, e3, e4, x, y] [5, 6]) = some [e0, e1, e2, e3, e4, some (a z), some (b z)] := rfl
    rw [e1']
    simp only [Option.bind_some]
    rw [h z (List.mem_cons_self ..)]
    simp only [Option.bind_some]
    rw [hy]
    rfl
structure Kp1 (P : Prg) : Prop extends Kp0 P, Kd P where
  f11 : P.fn 11 = some F11
  f13 : P.fn 13 = some F13
  f27 : P.fn 27 = some F27
  f28 : P.fn 28 = some F28
  f30 : P.fn 30 = some F30
theorem partsSum {P : Prg} (K : Kp1 P) (k : Nat) {l m : List Rat} {n1 n2 : Nat} (hl : ∀ i, Sz n1 (gt0 l i)) (hm : ∀ i, Sz n2 (gt0 m i)) (b1 : n1 ≤ 3900) (b2 : n2 ≤ 3900) (ll : l.length ≤ 100) (ml : m.length ≤ 100) : run P (k + 4) 28 [.tup (l.map frD), .tup (m.map frD)] = some (.tup ((sumT l m).map frD), []) := by
  let N := max l.length m.length
  have hN1 : l.length ≤ N := Nat.le_max_left _ _
  have hN2 : m.length ≤ N := Nat.le_max_right _ _
  have hN : N ≤ 100 := Nat.max_le.mpr ⟨ll, ml⟩
  let A : D := .lst (((List.range N).map (gt0 l)).map frD)
  let B : D := .lst (((List.range N).map (gt0 m)).map frD)
  obtain ⟨p1, p2⟩ := padD2 hN1 (by omega)
  obtain ⟨q1, q2⟩ := padD2 hN2 (by omega)
  let E1 : EnD := [some (.tup (l.map frD)), some (.tup (m.map frD)), some (.int (N : Int)), some A, some B, none, none]
  refine run_at (fl := .rt _) (e := E1) K.f28 rfl ?_ rfl (.inl rfl)
  show exL (run P (k + 3)) P.gl F28.body [some (.tup (l.map frD)), some (.tup (m.map frD)), none, none, none, none, none] = _
  refine nx_at (env' := [some (.tup (l.map frD)), some (.tup (m.map frD)), some (.int (N : Int)), none, none, none, none]) (asg_at (d := .int (N : Int)) (env' := [some (.tup (l.map frD)), some (.tup (m.map frD)), none, none, none, none, none]) ?_ rfl) (nx_at (env' := E1) ?_ (ret_at (ev_call1 (d := .lst (((List.range N).map fun i => gt0 l i + gt0 m i).map frD)) ?_ (kitTrim K.f27 K.g0 (k + 2) rfl))))
  · simp only [ev, evL, g_at, b_lent, List.length_map, b_max2', max_int, Option.bind_some, Option.map_some, List.getElem?_cons_zero, List.getElem?_cons_succ, Option.join_some]
    rfl
  · simp only [exS, ev, evL, g_at, K.g0, b_listt, b_lent, List.length_map, o_sub, p1, p2, q1, q2, parF, Option.bind_some, Option.map_some, List.getElem?_cons_zero, List.getElem?_cons_succ, Option.join_some, Bool.false_and, Bool.false_eq_true, if_false, List.set_cons_zero, List.set_cons_succ]
    rfl
  · have hz : evI (run P (k + 3)) P.gl (.zip (.v 3) (.v 4)) E1 = some ((List.range N).map (fun i => D.tup [frD (gt0 l i), frD (gt0 m i)]), E1) := by
      have z := zip_map (a := fun i => frD (gt0 l i)) (b := fun i => frD (gt0 m i)) (xs := List.range N)
      have za : ((List.range N).map (gt0 l)).map frD = (List.range N).map fun i => frD (gt0 l i) := by rw [List.map_map]; rfl
      have zb : ((List.range N).map (gt0 m)).map frD = (List.range N).map fun i => frD (gt0 m i) := by rw [List.map_map]; rfl
      simp only [E1, A, B, evI, ev, g_at, za, zb, z, Option.bind_some, Option.map_some, List.getElem?_cons_zero, List.getElem?_cons_succ, Option.join_some]
    obtain ⟨x', y', hy⟩ := lc28 (elt := fun e => ev (run P (k + 3)) P.gl (.call 11 (.val (.v 5) (.val (.v 6) .nil))) e) (a := fun i => frD (gt0 l i)) (b := fun i => frD (gt0 m i)) (g := fun i => frD (gt0 l i + gt0 m i)) (e0 := some (.tup (l.map frD))) (e1 := some (.tup (m.map frD))) (e2 := some (.int (N : Int))) (e3 := some A) (e4 := some B) (xs := List.range N) (x := none) (y := none) (fun i _ => by
      have p3 := kitAdd K.toKd K.f11 k (hl i) (hm i) b1 b2
      simp only [ev, evA, fillA, outA, lentA, g_at, p3, Option.bind_some, Option.map_some, List.getElem?_cons_zero, List.getElem?_cons_succ, Option.join_some, Bool.false_and, Bool.false_eq_true, if_false])
    have hf : fits ((List.range N).map fun i => D.tup [frD (gt0 l i), frD (gt0 m i)]) = some ((List.range N).map fun i => D.tup [frD (gt0 l i), frD (gt0 m i)]) := if_pos (by rw [List.length_map, List.length_range]; omega)
    rw [ev_lc, hz]
    simp only [Option.bind_some]
    rw [hf]
    simp only [Option.bind_some]
    rw [hy]
    simp only [Option.map_some]
    rw [List.map_map]
    rfl
end LS
set_option maxHeartbeats 4000000
/-! K26b: k26 at every script. -/
namespace LS
open PySem L2
theorem exL_tk {C : CallT} {G : Nat → Option D} {x : Option (Fl × EnD)} : ∀ (n : Nat) (s : SL) (env env' : EnD), exL C G (sTk s n) env = some (.nx, env') → exL C G (sTl s n) env' = x → exL C G s env = x
  | 0, s, env, env', h1, h2 => by
    have e : sTk s 0 = .nil := by cases s <;> rfl
    rw [e] at h1
    simp only [exL] at h1
    cases h1
    have e2 : sTl s 0 = s := by cases s <;> rfl
    rw [e2] at h2
    exact h2
  | n + 1, .nil, env, env', h1, h2 => by
    have e : sTk .nil (n + 1) = .nil := rfl
    rw [e] at h1
    simp only [exL] at h1
    cases h1
    exact h2
  | n + 1, .cons s r, env, env', h1, h2 => by
    have e : sTk (.cons s r) (n + 1) = .cons s (sTk r n) := rfl
    rw [e] at h1
    simp only [exL] at h1 ⊢
    obtain ⟨⟨f, e1⟩, q1, q2⟩ := Option.bind_eq_some_iff.mp h1
    rw [q1]
    simp only [Option.bind_some]
    cases f with
    | nx => exact exL_tk n r e1 env' q2 h2
    | rt d => cases q2
theorem b_repB {d : D} (h1 : d.fine = true) (h2 : d.dep ≤ 60) (h3 : d.blk ≤ 8000) : Okr d := ⟨h1, h2, h3⟩
structure Z26 (P : Prg) : Prop where
  sub : Sub P26 P
  f168 : P.fn 168 = some F168
  f169 : P.fn 169 = some F169
  f325 : P.fn 325 = some F325
  f326 : P.fn 326 = some F326
theorem lawRight26 {P : Prg} (L : Z26 P) {v : D} (hv : Vn 0 v) : ∃ v', run P 12 325 [v] = some (.bl true, [v']) := by
  obtain ⟨w, v1, a1, a2, a3, a4⟩ := chip L.f169 10 (n := 8) hv (by decide) (by decide) (lt60 (by decide))
  obtain ⟨u, hu⟩ : ∃ u : Nat, 1 + w = (u : Int) := ⟨(1 + w).toNat, by omega⟩
  obtain ⟨F, T1, T2, T3, Nu, O, N, E1, E2, E3, _, _, hA, t1, t2, t3, o1, o2, o3, e1, e2, e3, hL, x1, x2, x3, y1, y2, y3⟩ := (r26 (u := u) (by omega) (by omega)).ex
  have sA := exL_of (k := 11) L.sub (hA v1)
  have sL := exS_of (k := 11) L.sub (hL v1)
  have t1 := run_of (k := 11) L.sub t1
  have t2 := run_of (k := 11) L.sub t2
  have t3 := run_of (k := 11) L.sub t3
  have o1 := run_of (k := 11) L.sub o1
  have o2 := run_of (k := 11) L.sub o2
  have o3 := run_of (k := 11) L.sub o3
  have e1 := run_of (k := 11) L.sub e1
  have e2 := run_of (k := 11) L.sub e2
  have e3 := run_of (k := 11) L.sub e3
  have ok1 : Okr (.lst [T1, T2, T3]) := ⟨x1, x2, x3⟩
  have ok2 : Okr (.lst [E1, E2, E3]) := ⟨y1, y2, y3⟩
  have ok3 : Okr (.lst [.int (u : Int), .int ((u : Int) + 1), .int (u : Int)]) := by
    have l1 : ((u : Int)).natAbs.log2 < 1920 := log_lt (by decide) (Nat.lt_of_lt_of_le (show ((u : Int)).natAbs < 2 ^ 5 by omega) (Nat.pow_le_pow_right (by decide) (by decide)))
    have l2 : ((u : Int) + 1).natAbs.log2 < 1920 := log_lt (by decide) (Nat.lt_of_lt_of_le (show ((u : Int) + 1).natAbs < 2 ^ 5 by omega) (Nat.pow_le_pow_right (by decide) (by decide)))
    refine ⟨?_, by simp [D.dep, D.depL], by simp [D.blk, D.blkL]⟩
    simp only [D.fine, D.fineL, decide_eq_true l1, decide_eq_true l2, Bool.and_true]
  let E5 : EnD := [some v1, some (.int (u : Int)), some F, some (.lst [T1, T2, T3]), some Nu, some (.lst [T1, T2, T3]), none, some O, some N, none, none]
  let E6 : EnD := [some v1, some (.int (u : Int)), some F, some (.lst [T1, T2, T3]), some Nu, some (.lst [T1, T2, T3]), some (.lst [E1, E2, E3]), some O, some N, none, none]
  have lc : ∀ (f : Nat) (g1 g2 g3 : D) (E : EnD), getE E 5 = some (.lst [T1, T2, T3]) → 10 < E.length → run P 11 f [T1] = some (g1, []) → run P 11 f [T2] = some (g2, []) → run P 11 f [T3] = some (g3, []) → ev (run P 11) P.gl (.lc (.call f (.val (.v 10) .nil)) (.n 10) (.seq (.v 5)) [10]) E = some (.lst [g1, g2, g3], E) := fun f g1 g2 g3 E he hl h1 h2 h3 => by
    have h := lc_evA (C := run P 11) (G := P.gl) (elt := .call f (.val (.v 10) .nil)) (i := 10) (it := .seq (.v 5)) (env := E) (xs := [(T1, g1), (T2, g2), (T3, g3)]) (a := fun p => p.1) (g := fun p => p.2) (by simp only [evI, ev, he, Option.map_some, Option.bind_some]; rfl) (by simp) hl (fun z hz => by
      have gz : getE (E.set 10 (some z.1)) 10 = some z.1 := by
        unfold getE
        rw [List.getElem?_set_self hl]
        rfl
      have hr : run P 11 f [z.1] = some (z.2, []) := by
        simp only [List.mem_cons, List.not_mem_nil, or_false] at hz
        rcases hz with rfl | rfl | rfl
        · exact h1
        · exact h2
        · exact h3
      exact ev_call1 (v_ev gz) hr)
    exact h
  refine ⟨v1, ?_⟩
  apply run_ex L.f325 rfl (.inl rfl)
  show ∃ e, exL (run P 11) P.gl F325.body [some v, none, none, none, none, none, none, none, none, none, none] = some (.rt (.bl true), e) ∧ outsE F325.pk e = some [v1]
  have fin : exL (run P 11) P.gl (sTl F325.body 6) [some v1, some (.int (u : Int)), some F, some (.lst [T1, T2, T3]), some Nu, none, none, some O, some N, none, none] = some (.rt (.bl true), E6) := by
    refine nx_at (s := sAt F325.body 6) (env' := E5) ?_ (nx_at (s := sAt F325.body 7) (ifs_no (env' := E5) ?_) (nx_at (s := sAt F325.body 8) (ifs_no (env' := E5) (rep_ne (e1 := E5) ok3 (lc _ _ _ _ E5 rfl (by simp [E5]) o1 o2 o3) ?_)) (nx_at sL (ret_at (rep_eq (e1 := E6) ok2 (lc _ _ _ _ E6 rfl (by simp [E6]) e1 e2 e3) ?_)))))
    · unfold F325
      simp only [sAt]
      (simp only [exL, exS, tst, ev, evL, evO, evA, evI, fillA, outA, lentA, parF, asgT, asgL, T.len, g_at, Option.bind_some, Option.map_some, List.getElem?_cons_zero, List.getElem?_cons_succ, Option.join_some, Bool.false_and, Bool.false_eq_true, if_false, if_true, List.set_cons_zero, List.set_cons_succ, Bool.not_true, Bool.not_false, Bool.and_false, Bool.true_and, Bool.and_true, s_bl, t_bl, t1, t2, t3]; first | done | rfl)
    · (simp only [exL, exS, tst, ev, evL, evO, evA, evI, fillA, outA, lentA, parF, asgT, asgL, T.len, g_at, Option.bind_some, Option.map_some, List.getElem?_cons_zero, List.getElem?_cons_succ, Option.join_some, Bool.false_and, Bool.false_eq_true, if_false, if_true, List.set_cons_zero, List.set_cons_succ, Bool.not_true, Bool.not_false, Bool.and_false, Bool.true_and, Bool.and_true, s_bl, t_bl, E5, permK, List.nil_append, t1, t2, t3, b_rep ok1, c_txt ok1]; first | done | rfl)
    · (simp only [exL, exS, tst, ev, evL, evO, evA, evI, fillA, outA, lentA, parF, asgT, asgL, T.len, g_at, Option.bind_some, Option.map_some, List.getElem?_cons_zero, List.getElem?_cons_succ, Option.join_some, Bool.false_and, Bool.false_eq_true, if_false, if_true, List.set_cons_zero, List.set_cons_succ, Bool.not_true, Bool.not_false, Bool.and_false, Bool.true_and, Bool.and_true, s_bl, t_bl, E5, o_add]; first | done | rfl)
    · (simp only [exL, exS, tst, ev, evL, evO, evA, evI, fillA, outA, lentA, parF, asgT, asgL, T.len, g_at, Option.bind_some, Option.map_some, List.getElem?_cons_zero, List.getElem?_cons_succ, Option.join_some, Bool.false_and, Bool.false_eq_true, if_false, if_true, List.set_cons_zero, List.set_cons_succ, Bool.not_true, Bool.not_false, Bool.and_false, Bool.true_and, Bool.and_true, s_bl, t_bl, E6]; first | done | rfl)
  refine ⟨E6, ?_, rfl⟩
  refine nx_at (s := sAt F325.body 0) (env' := [some v1, some (.int (u : Int)), none, none, none, none, none, none, none, none, none]) ?_ (exL_tk 5 (sTl F325.body 1) _ _ sA fin)
  unfold F325
  simp only [sAt]
  (simp only [exL, exS, tst, ev, evL, evO, evA, evI, fillA, outA, lentA, parF, asgT, asgL, T.len, g_at, Option.bind_some, Option.map_some, List.getElem?_cons_zero, List.getElem?_cons_succ, Option.join_some, Bool.false_and, Bool.false_eq_true, if_false, if_true, List.set_cons_zero, List.set_cons_succ, Bool.not_true, Bool.not_false, Bool.and_false, Bool.true_and, Bool.and_true, s_bl, t_bl, a1, o_add, hu]; first | done | rfl)
theorem lawAll26 {P : Prg} (L : Z26 P) {ns : List Int} (hl : ns.length ≤ 63) : run P 13 326 [.scr ns] = some (.bl true, []) := by
  obtain ⟨n, hn, hc⟩ : ∃ n : Nat, n ≤ 3 ∧ (if (if (3 : Int) < (ns.length : Int) then (3 : Int) else (ns.length : Int)) > 2 then (if (3 : Int) < (ns.length : Int) then (3 : Int) else (ns.length : Int)) else 2) = (n : Int) := by
    by_cases z : (3 : Int) < (ns.length : Int)
    · rw [if_pos z]; exact ⟨3, by decide, rfl⟩
    · rw [if_neg z]
      by_cases y : (ns.length : Int) > 2
      · rw [if_pos y]; exact ⟨ns.length, by omega, rfl⟩
      · rw [if_neg y]; exact ⟨2, by decide, rfl⟩
  refine run_at (fl := .rt (.bl true)) (e := [some (.scr ns), none]) L.f326 rfl ?_ rfl (.inl rfl)
  show exL (run P 12) P.gl F326.body [some (.scr ns), none] = _
  refine ret_at (ev_bi1 (lc_ev (ds := rng 0 n) (g := fun _ => .bl true) ?_ ?_ (by simp) ?_) (b_all _))
  · refine rng1_at (n := n) ?_ (by omega)
    simp only [ev, evL, g_at, b_lens, b_min2', b_max2', hc, Option.bind_some, Option.map_some, List.getElem?_cons_zero, Option.join_some]
  · rw [rng_len]; omega
  · intro d hd
    obtain ⟨i, rfl, hi⟩ := rng_inY hd
    obtain ⟨a, mm, h1, h2, h3⟩ := lawVein L.f168 11 hl (t := i) (by omega)
    obtain ⟨v', h4⟩ := lawRight26 L (v := .lst [.int a, .int mm, .int 0]) ⟨a, mm, 0, rfl, by decide, by decide, h2, h3⟩
    simp only [ev, evA, fillA, g_at, h1, lstI, intsD, h4, Option.bind_some, Option.map_some, List.getElem?_cons_zero, List.getElem?_cons_succ, Option.join_some, List.set_cons_zero, List.set_cons_succ]
theorem z26Pr : Z26 Pr := ⟨by apply sub26 <;> rfl, rfl, rfl, rfl, rfl⟩
def KK : Nat := 12
theorem law_runs : ∀ ns : List Int, ns.length ≤ 63 → run Pr (KK + 1) 326 [.scr ns] = some (.bl true, []) := fun ns hl => lawAll26 z26Pr hl
end LS
set_option maxHeartbeats 0
namespace LS
open PySem PySem.Spec PyProof.Rows L2
/-- the law's walk, from its reading -/
theorem walk_law {kk : Nat} (hk : kk ≤ 200) (hrun : ∀ ns : List Int, ns.length ≤ 63 → run Pr (kk + 1) 326 [.scr ns] = some (.bl true, [])) {d : DefRec} (dn : d.name = ("law" : Str)) (dd : d.params.defaults = []) : PySem.W.WalkO hV loose (PySem.W.XL hV []) LS.hk.says hR.toRowW d [] fun f vs => PySem.call f vs := by
  refine Att.attach_call (l := PySem.Challenge.rw_legsteps_k26_whole_adams_moulton_backwar) (n := 63) rfl dd fun w s₀ s₁ mg mb fa o pm cd doc a vs ns G Y ho hd hcd hmg hobj hints hlen hg => ?_
  obtain ⟨K, KX, c, cg⟩ := Y
  obtain ⟨fd, FD⟩ := c.def_ 49 (d := mkD F326 (top 69)) rfl
  have hm : mg ("law" : Str) = some (.ref (He.fAd K ("law", none))) := He.glo_ok KX G.T.g (c.fact 49 (f := .glo "law") rfl)
  rw [dn] at hmg
  have e := hmg.symm.trans hm
  have e : fa = He.fAd K ("law", none) := by
    have := Option.some.inj e
    exact Value.ref.inj this
  subst e
  have hb : ∀ (s : Shared) (u : Value), BindsTo s fd ⟨[u], []⟩ [("script", u)] := fun s u => FunD.bindsA (ps := ["script"]) FD (fun _ _ _ _ _ _ us hl => match us, hl with | [_], _ => rfl) s [u] rfl
  have dk : DOk K mg Pr (gnOf gt) blN true kwN F326 (He.fAd K ("law", none)) fd (defArgs (top 69)) (defBody (top 69)) (defScope (top 69)) :=
    ⟨FD, hm, FD.bindsN fun _ _ _ _ _ _ us hl => match us, hl with | [_], _ => rfl, kw_all [] (by decide +kernel) mem_none, C8.fnScope_by (by decide +kernel), rfl, by decide +kernel⟩
  exact law_go (x := "script") (k := kk + 1) KX G.T.g G.T.b G.T.builtins G.T.nolimit hg hobj hints (Nat.le_trans hlen (by decide)) ⟨rfl, by show 1 + 300 + 3 * (kk + 1) + 5 < 1000; omega, by show 4 + 16 * (kk + 1) + 200 < 9900; omega⟩
    (fun base KB GB => fnG_of (glob KX G.T.g c cg) (all_fns (glob KX G.T.g c cg) (all_dok KX G.T.g c) kk) (show Pr.fn 326 = some F326 from rfl) dk) hb
    fun H hS => sp_law rfl rfl hS (hrun ns hlen)
end LS
open PySem PySem.W PySem.Calls PyProof.Rows
theorem PySem.Challenge.cw_legsteps_k26_whole_adams_moulton_backwar_holds : PySem.Challenge.rw_legsteps_k26_whole_adams_moulton_backwar.Holds := by
  w_on; o_law
  refine HandSHeadRun.head_imp (r := LS.hR) (q := LS.hV) (H := LS.hk) (ob := LS.ob) (M := 6000) (loose := LS.loose) (d := HandSHeadRun.topDef LS.hP 69) (kwd := []) LS.ob_eq LS.head_run (by kernel_rfl) (by kernel_rfl) (by kernel_rfl) (by rfl) (by first | assumption | decide +kernel) (by decide +kernel) ⟨rfl, rfl, rfl, rfl, rfl, by decide +kernel⟩ ?hw ?hc
  case hw => w_witness2
  case hc => exact LS.walk_law (kk := LS.KK) (by decide) LS.law_runs (by kernel_rfl) (by kernel_rfl)
