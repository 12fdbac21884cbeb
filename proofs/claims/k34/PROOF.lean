import PyProof.Rows.All
import Wide.All
import OpenK.AllK
import Wide.FinOn
import HandS.ForMost
import HandS.Exc
import HandS.TryOnly
import HandS.ExcOwn
import HandS.WordsExc
import HandS.Deep
import HandS.TupAny
import HandS.Wide
import HandS.IsInst
import HandS.TupLe
import HandS.Zip
import PySem.Challenge.RW_threadchart_k34_formulas
set_option Elab.async false
set_option linter.all false
set_option maxRecDepth 100000
set_option maxHeartbeats 4000000
/-! Tc: pure values, a small syntax, its evaluator. -/
namespace Tc
open PySem

/-- values as trees; ref n: the n-th object of the store -/
inductive D where
  | non | bl (b : Bool) | int (i : Int) | str (x : Str)
  | tup (xs : List D) | lst (xs : List D) | fz (xs : List D) | dct (kvs : List (D × D))
  | exn (C : Str) (fs : List (Str × D))
  | ref (n : Nat)
/-- an object that may change -/
inductive Ob where
  | lst (xs : List D)
  | dct (kvs : List (D × D))
  | ins (C : Str) (fs : List (Str × D))
abbrev Sto := List Ob
/-- an expression's end: a value, or a new list (dict) that nobody else has -/
inductive R where
  | d (v : D) | tl (xs : List D) | td (kvs : List (D × D))
def R.sh : R → D
  | .d v => v | .tl xs => .lst xs | .td kvs => .dct kvs
/-- an exception: its class's name, its fields -/
structure Exn where
  cls : Str
  fs : List (Str × D)
inductive Out where
  | ok (r : R) (h : Sto) | ex (x : Exn) (h : Sto)
inductive OutA where
  | ok (ds : List D) (h : Sto) | ex (x : Exn) (h : Sto)
/-- what is walked: the items; the store's list that it is, if it is one -/
inductive OutI where
  | ok (ds : List D) (src : Option Nat) (h : Sto) | ex (x : Exn) (h : Sto)
abbrev Env := List (Option D)
inductive Fl where
  | nx (e : Env) (h : Sto) | rt (r : R) (h : Sto) | ex (x : Exn) (e : Env) (h : Sto)

inductive Bin where
  | add | sub | mul | mod | fdiv | pow
  deriving DecidableEq
inductive Cmp where
  | eq | ne | lt | le | gt | ge | is | isnt | mem | nmem
  deriving DecidableEq
inductive B1 where
  | len | abs | tuple | list | all | int | str | sum | sortset | lenset | dict | bool
  deriving DecidableEq
inductive B2 where
  | min | max
  deriving DecidableEq
inductive Tp where
  | int | bool | str | tuple | list
  deriving DecidableEq
inductive Me where
  | append | extend | pop | index | startswith | partition
  deriving DecidableEq
/-- targets: a name; a name whose new list becomes an object; several -/
inductive T where
  | v (i : Nat) | m (i : Nat) | tp (ts : T) | nil | cons (t r : T)
inductive E where
  | var (i : Nat) | lit (d : D) | glob (x : Str)
  | call (f : Str) (a : E) | b1 (b : B1) (a : E) | b2 (b : B2) (a c : E)
  | bin (o : Bin) (a c : E) | cmp (o : Cmp) (a c : E) | chain (o p : Cmp) (a b c : E)
  | and (a c : E) | or (a c : E) | not (a : E)
  | tup (a : E) | lst (a : E) | dct (ks : List Str) (a : E) | obj (a : E) | ix (a i : E) | sl (a lo hi : E) | slf (a lo : E) | slt (a hi : E)
  | lc (vs : List Nat) (t : T) (it elt : E) | lcc (vs : List Nat) (t : T) (it c elt : E)
  | isi (a : E) (ts : List Tp) | met (m : Me) (o a : E)
  | fld (o : E) (x : Str) | mk (C : Str) | mcall (o : E) (m : Str) (a : E)
  | anil | acons (a r : E)
  | irng1 (a : E) | irng2 (a b : E) | irng3 (a b c : E) | iseq (a : E) | ienum (a : E) | izip (a b : E)
inductive S where
  | nil | cons (s r : S)
  | set (t : T) (e : E) | setix (o i e : E) | setfld (o : E) (x : Str) (e : E) | aug (i : Nat) (o : Bin) (e : E)
  | par (i j : Nat) (a c : E)
  | ret (e : E) | retn | pass
  | ifs (c : E) (a b : S) | whl (c : E) (b : S) | fr (t : T) (it : E) (b : S)
  | expr (e : E) | rais (x : Str) | raisf (x f : Str) (e : E)
  | try1 (b : S) (x : Str) (as : Option Nat) (s els : S)

/-! ### operations on values -/
mutual
def D.dat : D → Option PyData
  | .non => some .none
  | .bl b => some (.bool b)
  | .int i => some (.int i)
  | .str x => some (.str x)
  | .tup xs => (dats xs).map PyData.tuple
  | .lst xs => (dats xs).map PyData.list
  | .fz xs => (dats xs).map PyData.list
  | .dct _ => none
  | .exn _ _ => none
  | .ref _ => none
def dats : List D → Option (List PyData)
  | [] => some []
  | x :: r => (D.dat x).bind fun a => (dats r).map fun b => a :: b
end
/-- the items of a list -/
def items (h : Sto) : D → Option (List D)
  | .lst xs => some xs
  | .fz xs => some xs
  | .ref n => match h[n]? with
    | some (.lst xs) => some xs
    | _ => none
  | _ => none
def datS (h : Sto) (d : D) : Option PyData := match d with
  | .ref n => match h[n]? with
    | some (.lst xs) => (dats xs).map PyData.list
    | _ => none
  | d => d.dat
/-- x == y -/
def eqvS (h : Sto) (x y : D) : Option Bool :=
  match items h x, items h y with
  | some xs, some [] => some xs.isEmpty
  | _, _ => match datS h x, datS h y with
    | some a, some b => if a.depth ≤ 64 ∨ b.depth ≤ 64 then some (PyData.eqv a b) else none
    | _, _ => none
def mulOk (i j : Int) : Prop := (-(2 ^ 64) < i ∧ i < 2 ^ 64) ∨ (-(2 ^ 64) < j ∧ j < 2 ^ 64) ∨ i.natAbs.log2 + j.natAbs.log2 < 1000000
def fdivOk (j : Int) : Prop := j ≠ 0 ∧ j.natAbs.log2 < 9000
def powOk (i j : Int) : Prop := 0 ≤ j ∧ j ≤ 1000000 ∧ i.natAbs < 2 ^ 64
def repOk (n : Nat) (j : Int) : Prop := n * j.toNat ≤ sizeLine ∧ -(2 ^ 63) ≤ j ∧ j < 2 ^ 63
def rng1Ok (j : Int) : Prop := -(2 ^ 62) ≤ j ∧ j < 2 ^ 62
def rng2Ok (i j : Int) : Prop := -(2 ^ 62) ≤ i ∧ i < 2 ^ 62 ∧ -(2 ^ 62) ≤ j ∧ j < 2 ^ 62
def rng3Ok (i j c : Int) : Prop := c ≠ 0 ∧ c.natAbs < 1073741824 ∧ Builtin.Range.small i j c = true ∧ 0 ≤ Builtin.Range.rangeSize i j c
open Classical in
noncomputable def binv (o : Bin) (h : Sto) (x y : D) : Option R := match o, x, y with
  | .add, .int i, .int j => some (.d (.int (i + j)))
  | .add, .str a, .str b => if a.length + b.length ≤ sizeLine then some (.d (.str (a ++ b))) else none
  | .add, .tup a, .tup b => if a.length + b.length ≤ sizeLine then some (.d (.tup (a ++ b))) else none
  | .add, .lst a, .lst b => if a.length + b.length ≤ sizeLine then some (.tl (a ++ b)) else none
  | .sub, .int i, .int j => some (.d (.int (i - j)))
  | .mul, .int i, .int j => if mulOk i j then some (.d (.int (i * j))) else none
  | .mul, .lst a, .int j => if repOk a.length j then some (.tl (List.replicate j.toNat a).flatten) else none
  | .mod, .int i, .int j => if j ≠ 0 then some (.d (.int (i.fmod j))) else none
  | .fdiv, .int i, .int j => if fdivOk j then some (.d (.int (i.fdiv j))) else none
  | .pow, .int i, .int j => if powOk i j then some (.d (.int (i ^ j.toNat))) else none
  | _, _, _ => none
/-- plain values, as HandS has them -/
def D.flat : D → Bool
  | .non | .bl _ | .int _ | .str _ => true
  | _ => false
def D.toV : D → L2.V
  | .bl b => .bl b
  | .int i => .int i
  | .str x => .str x
  | _ => .non
/-- x in y -/
def memv (h : Sto) (x y : D) : Option Bool := match x, y with
  | .str a, .str b => if a.cps.size = 1 then some (decide (a.cps.getD 0 0 ∈ b.cps.toList)) else none
  | x, .tup ys => if x.flat = true ∧ ys.all D.flat = true then some (L2.inV x.toV (ys.map D.toV)) else none
  | x, y => match x.dat, (items h y).bind dats with
    | some d, some ds => if d.depth ≤ 64 ∧ (PyData.list ds).depth ≤ 64 then some (ds.any fun z => PyData.eqv z d) else none
    | _, _ => none
def cmpv (o : Cmp) (h : Sto) (x y : D) : Option Bool := match o with
  | .eq => eqvS h x y
  | .ne => (eqvS h x y).map (!·)
  | .lt => match x, y with
    | .int i, .int j => some (decide (i < j))
    | _, _ => none
  | .le => match x, y with
    | .int i, .int j => some (decide (i ≤ j))
    | _, _ => none
  | .gt => match x, y with
    | .int i, .int j => some (decide (j < i))
    | _, _ => none
  | .ge => match x, y with
    | .int i, .int j => some (decide (j ≤ i))
    | _, _ => none
  | .is => match x, y with
    | .bl a, .bl b => some (decide (a = b))
    | .non, .non => some true
    | _, .non => some false
    | _, _ => none
  | .isnt => match x, y with
    | .bl a, .bl b => some (!decide (a = b))
    | .non, .non => some false
    | _, .non => some true
    | _, _ => none
  | .mem => memv h x y
  | .nmem => (memv h x y).map (!·)
def bools : List D → Option (List Bool)
  | [] => some []
  | .bl b :: r => (bools r).map fun s => b :: s
  | _ :: _ => none
def intsD : List D → Option (List Int)
  | [] => some []
  | .int b :: r => (intsD r).map fun s => b :: s
  | _ :: _ => none
def b1v (b : B1) (h : Sto) (x : D) : Option R := match b, x with
  | .len, .str a => if a.length ≤ sizeLine then some (.d (.int a.length)) else none
  | .len, .tup xs => some (.d (.int xs.length))
  | .len, x => (items h x).map fun xs => .d (.int xs.length)
  | .abs, .int i => some (.d (.int (if i < 0 then -i else i)))
  | .tuple, .tup xs => some (.d (.tup xs))
  | .tuple, x => (items h x).map fun xs => .d (.tup xs)
  | .list, .tup xs => some (.tl xs)
  | .list, x => (items h x).map fun xs => .tl xs
  | .all, x => ((items h x).bind bools).map fun bs => .d (.bl (bs.all id))
  | .sum, x => ((items h x).bind intsD).map fun bs => .d (.int bs.sum)
  | .int, .int i => some (.d (.int i))
  | .int, .bl k => some (.d (.int (if k then 1 else 0)))
  | .str, .int i => if i.natAbs.log2 < 1920 then some (.d (.str (toString i))) else none
  | _, _ => none
def b2v (b : B2) (x y : D) : Option R := match b, x, y with
  | .min, .int i, .int j => some (.d (.int (if j < i then j else i)))
  | .max, .int i, .int j => some (.d (.int (if j > i then j else i)))
  | _, _, _ => none
def ixv (h : Sto) (x i : D) : Option R := match x, i with
  | .tup xs, .int i => (L2.atI xs i).map .d
  | .str z, .int i => if z.length ≤ sizeLine then (L2.atI z.cps.toList i).map fun c => .d (.str ⟨#[c]⟩) else none
  | x, .int i => (items h x).bind fun xs => (L2.atI xs i).map .d
  | _, _ => none
def cutD (xs : List D) (lo hi : Option Int) : List D := (xs.drop (HT.sIx xs.length 0 lo)).take (HT.sIx xs.length xs.length hi - HT.sIx xs.length 0 lo)
def slv (h : Sto) (x : D) (l u : Option Int) : Option R := match x with
  | .tup xs => some (.d (.tup (cutD xs l u)))
  | .str z => if z.length ≤ sizeLine then some (.d (.str (L2.cutS z l u))) else none
  | x => (items h x).map fun xs => .tl (cutD xs l u)
def isTp : D → Tp → Option Bool
  | .non, _ => some false
  | .bl _, .int => some true
  | .bl _, .bool => some true
  | .bl _, _ => some false
  | .int _, .int => some true
  | .int _, _ => some false
  | .str _, .str => some true
  | .str _, _ => some false
  | .tup _, .tuple => some true
  | .tup _, _ => some false
  | .lst _, .list => some true
  | .lst _, _ => some false
  | .dct _, _ => some false
  | _, _ => none
def isTps (d : D) : List Tp → Option Bool
  | [] => some false
  | t :: r => match isTp d t with
    | some true => some true
    | some false => isTps d r
    | none => none
/-- a method's value and the store behind it -/
def metv (m : Me) (h : Sto) (o : D) (as : List D) : Option (R × Sto) := match m, o, as with
  | .append, .ref n, [x] => match h[n]? with
    | some (.lst xs) => if xs.length < sizeLine then some (.d .non, h.set n (.lst (xs ++ [x]))) else none
    | _ => none
  | .extend, .ref n, [.lst ys] => match h[n]? with
    | some (.lst xs) => if xs.length + ys.length ≤ sizeLine then some (.d .non, h.set n (.lst (xs ++ ys))) else none
    | _ => none
  | .pop, .ref n, [] => match h[n]? with
    | some (.lst xs) => match xs[xs.length - 1]? with
      | some y => some (.d y, h.set n (.lst xs.dropLast))
      | none => none
    | _ => none
  | .startswith, .str a, [.str b] => some (.d (.bl (Txt.startswith a b)), h)
  | _, _, _ => none
/-- what has the method -/
def recvOk (m : Me) (h : Sto) (x : D) : Bool := match m, x with
  | .startswith, .str _ => true
  | .partition, .str _ => true
  | .startswith, _ => false
  | .partition, _ => false
  | _, x => (items h x).isSome
/-- the place of the first item that is alike -/
def firstAt (ds : List PyData) (d : PyData) : Option Nat := ds.findIdx? fun z => PyData.eqv z d

/-! ### targets -/
mutual
def bindT : T → D → Env → Sto → Option Env
  | .v i, d, e, _ => some (e.set i (some d))
  | .tp ts, .tup xs, e, h => bindTs ts xs e h
  | .tp ts, .lst xs, e, h => bindTs ts xs e h
  | _, _, _, _ => none
def bindTs : T → List D → Env → Sto → Option Env
  | .nil, [], e, _ => some e
  | .cons t r, x :: xs, e, h => (bindT t x e h).bind fun e1 => bindTs r xs e1 h
  | _, _, _, _ => none
end
/-- an assignment's store: a new list becomes an object where the target says so -/
def setT (t : T) (r : R) (e : Env) (h : Sto) : Option Fl := match t, r with
  | .m i, .tl xs => some (.nx (e.set i (some (.ref h.length))) (h ++ [.lst xs]))
  | .m i, .td kvs => some (.nx (e.set i (some (.ref h.length))) (h ++ [.dct kvs]))
  | .m i, .d d => some (.nx (e.set i (some d)) h)
  | t, r => (bindT t r.sh e h).map fun e1 => .nx e1 h

/-! ### the evaluator -/
structure Ctx where
  call : Str → List D → Sto → Option Out
  cst : Str → Option D
  sub : Str → Str → Bool

def thenE (o : Option Out) (k : D → Sto → Option Out) : Option Out := match o with
  | some (.ok r h) => k r.sh h
  | some (.ex x h) => some (.ex x h)
  | none => none
def thenA (o : Option OutA) (k : List D → Sto → Option Out) : Option Out := match o with
  | some (.ok r h) => k r h
  | some (.ex x h) => some (.ex x h)
  | none => none
def ofV (o : Option R) (h : Sto) : Option Out := match o with
  | some r => some (.ok r h)
  | none => none
def ofP (o : Option (R × Sto)) : Option Out := match o with
  | some (r, h) => some (.ok r h)
  | none => none
def ofB (o : Option Bool) (h : Sto) : Option Out := match o with
  | some b => some (.ok (.d (.bl b)) h)
  | none => none
/-- a comprehension over items that are known -/
def lcL (f : D → Sto → Option (Option D × Sto)) : List D → Sto → Option (List D × Sto)
  | [], h => some ([], h)
  | x :: r, h => match f x h with
    | some (some y, h1) => match lcL f r h1 with
      | some (ys, h2) => some (y :: ys, h2)
      | none => none
    | some (none, h1) => lcL f r h1
    | none => none
def srcOk (src : Option Nat) (ds : List D) (h : Sto) : Prop := match src with
  | none => True
  | some n => h[n]? = some (.lst ds)
/-- names forgotten -/
def wipeE (e : Env) : List Nat → Env
  | [] => e
  | v :: vs => (wipeE e vs).set v none
/-- one turn of a comprehension: target, test, element -/
def lcTurn (t : T) (e : Env) (c : Option (Env → Sto → Option Out)) (elt : Env → Sto → Option Out) (x : D) (h : Sto) : Option (Option D × Sto) :=
  match bindT t x e h with
  | none => none
  | some e1 => match c with
    | none => match elt e1 h with
      | some (.ok r h1) => some (some r.sh, h1)
      | _ => none
    | some c => match c e1 h with
      | some (.ok (.d (.bl true)) h1) => match elt e1 h1 with
        | some (.ok r h2) => some (some r.sh, h2)
        | _ => none
      | some (.ok (.d (.bl false)) h1) => some (none, h1)
      | _ => none

def thenI (o : Option Out) (k : D → Sto → Option OutI) : Option OutI := match o with
  | some (.ok r h) => k r.sh h
  | some (.ex x h) => some (.ex x h)
  | none => none
open Classical in
noncomputable def rngI1 (x : D) (h : Sto) : Option OutI := match x with
  | .int j => if rng1Ok j then some (.ok ((List.range j.toNat).map fun (k : Nat) => .int (k : Int)) none h) else none
  | _ => none
open Classical in
noncomputable def rngI2 (x y : D) (h : Sto) : Option OutI := match x, y with
  | .int i, .int j => if rng2Ok i j then some (.ok ((List.range (j - i).toNat).map fun (k : Nat) => .int (i + k)) none h) else none
  | _, _ => none
open Classical in
noncomputable def rngI3 (x y z : D) (h : Sto) : Option OutI := match x, y, z with
  | .int i, .int j, .int c => if rng3Ok i j c then
      some (.ok ((List.range (Builtin.Range.rangeSize i j c).toNat).map fun (k : Nat) => .int (i + k * c)) none h) else none
  | _, _, _ => none
def seqI (x : D) (h : Sto) : Option OutI := match x with
  | .tup xs => some (.ok xs none h)
  | .lst xs => some (.ok xs none h)
  | .fz xs => some (.ok xs none h)
  | .str z => some (.ok (z.cps.toList.map fun c => .str ⟨#[c]⟩) none h)
  | .ref n => match h[n]? with
    | some (.lst xs) => some (.ok xs (some n) h)
    | _ => none
  | _ => none
def enumI (x : D) (h : Sto) : Option OutI := match x with
  | .lst xs => some (.ok (xs.zipIdx.map fun p => .tup [.int p.2, p.1]) none h)
  | _ => none
def zipI (x y : D) (h : Sto) : Option OutI := match x, y with
  | .lst xs, .lst ys => some (.ok ((xs.zip ys).map fun p => .tup [p.1, p.2]) none h)
  | .tup xs, .tup ys => some (.ok ((xs.zip ys).map fun p => .tup [p.1, p.2]) none h)
  | _, _ => none

/-- a new list (dict) becomes an object -/
def newO : Option Out → Option Out
  | some (.ok (.tl xs) h) => some (.ok (.d (.ref h.length)) (h ++ [.lst xs]))
  | some (.ok (.td xs) h) => some (.ok (.d (.ref h.length)) (h ++ [.dct xs]))
  | o => o
mutual
noncomputable def evE (G : Ctx) : E → Env → Sto → Option Out
  | .var i, e, h => match e[i]? with
    | some (some d) => some (.ok (.d d) h)
    | _ => none
  | .lit d, _, h => some (.ok (.d d) h)
  | .glob x, _, h => match G.cst x with
    | some d => some (.ok (.d d) h)
    | none => none
  | .call f a, e, h => thenA (evA G a e h) fun ds h1 => G.call f ds h1
  | .b1 b a, e, h => thenE (evE G a e h) fun x h1 => ofV (b1v b h1 x) h1
  | .b2 b a c, e, h => thenE (evE G a e h) fun x h1 => thenE (evE G c e h1) fun y h2 => ofV (b2v b x y) h2
  | .bin o a c, e, h => thenE (evE G a e h) fun x h1 => thenE (evE G c e h1) fun y h2 => ofV (binv o h2 x y) h2
  | .cmp o a c, e, h => thenE (evE G a e h) fun x h1 => thenE (evE G c e h1) fun y h2 => ofB (cmpv o h2 x y) h2
  | .and a c, e, h => thenE (evE G a e h) fun x h1 => match x with
    | .bl true => evE G c e h1
    | .bl false => some (.ok (.d (.bl false)) h1)
    | _ => none
  | .or a c, e, h => thenE (evE G a e h) fun x h1 => match x with
    | .bl false => evE G c e h1
    | .bl true => some (.ok (.d (.bl true)) h1)
    | _ => none
  | .not a, e, h => thenE (evE G a e h) fun x h1 => match x with
    | .bl b => some (.ok (.d (.bl (!b))) h1)
    | _ => none
  | .tup a, e, h => thenA (evA G a e h) fun ds h1 => some (.ok (.d (.tup ds)) h1)
  | .lst a, e, h => thenA (evA G a e h) fun ds h1 => some (.ok (.tl ds) h1)
  | .obj a, e, h => newO (evE G a e h)
  | .dct ks a, e, h => thenA (evA G a e h) fun ds h1 => if ks.length = ds.length ∧ ks.Nodup then some (.ok (.td ((ks.map D.str).zip ds)) h1) else none
  | .ix a i, e, h => thenE (evE G a e h) fun x h1 => thenE (evE G i e h1) fun y h2 => ofV (ixv h2 x y) h2
  | .sl a lo hi, e, h => thenE (evE G a e h) fun x h1 => thenE (evE G lo e h1) fun l h2 => match l with
    | .int l => thenE (evE G hi e h2) fun u h3 => match u with
      | .int u => ofV (slv h3 x (some l) (some u)) h3
      | _ => none
    | _ => none
  | .slf a lo, e, h => thenE (evE G a e h) fun x h1 => thenE (evE G lo e h1) fun l h2 => match l with
    | .int l => ofV (slv h2 x (some l) none) h2
    | _ => none
  | .slt a hi, e, h => thenE (evE G a e h) fun x h1 => thenE (evE G hi e h1) fun u h2 => match u with
    | .int u => ofV (slv h2 x none (some u)) h2
    | _ => none
  | .lc vs t it elt, e, h => match evI G it e h with
    | some (.ok ds none h1) => if ds.length ≤ 1000000 then match lcL (lcTurn t (wipeE e vs) none (evE G elt)) ds h1 with
      | some (ys, h2) => some (.ok (.tl ys) h2)
      | none => none
      else none
    | _ => none
  | .lcc vs t it c elt, e, h => match evI G it e h with
    | some (.ok ds none h1) => if ds.length ≤ 1000000 then match lcL (lcTurn t (wipeE e vs) (some (evE G c)) (evE G elt)) ds h1 with
      | some (ys, h2) => some (.ok (.tl ys) h2)
      | none => none
      else none
    | _ => none
  | .isi a ts, e, h => thenE (evE G a e h) fun x h1 => ofB (isTps x ts) h1
  | .met m o a, e, h => thenE (evE G o e h) fun x h1 => if recvOk m h1 x = true then thenA (evA G a e h1) fun ds h2 => ofP (metv m h2 x ds) else none
  | _, _, _ => none
noncomputable def evA (G : Ctx) : E → Env → Sto → Option OutA
  | .anil, _, h => some (.ok [] h)
  | .acons a r, e, h => match evE G a e h with
    | some (.ok x h1) => match evA G r e h1 with
      | some (.ok ds h2) => some (.ok (x.sh :: ds) h2)
      | o => o
    | some (.ex x h1) => some (.ex x h1)
    | none => none
  | _, _, _ => none
noncomputable def evI (G : Ctx) : E → Env → Sto → Option OutI
  | .irng1 a, e, h => thenI (evE G a e h) fun x h1 => rngI1 x h1
  | .irng2 a b, e, h => thenI (evE G a e h) fun x h1 => thenI (evE G b e h1) fun y h2 => rngI2 x y h2
  | .irng3 a b c, e, h => thenI (evE G a e h) fun x h1 => thenI (evE G b e h1) fun y h2 => thenI (evE G c e h2) fun z h3 => rngI3 x y z h3
  | .iseq a, e, h => thenI (evE G a e h) fun x h1 => seqI x h1
  | .ienum a, e, h => thenI (evE G a e h) fun x h1 => enumI x h1
  | .izip a b, e, h => thenI (evE G a e h) fun x h1 => thenI (evE G b e h1) fun y h2 => zipI x y h2
  | _, _, _ => none
end

/-! ### statements -/
def thenF (o : Option Fl) (k : Env → Sto → Option Fl) : Option Fl := match o with
  | some (.nx e h) => k e h
  | some (.rt r h) => some (.rt r h)
  | some (.ex x e h) => some (.ex x e h)
  | none => none
def valF (o : Option Out) (e : Env) (k : R → Sto → Option Fl) : Option Fl := match o with
  | some (.ok r h) => k r h
  | some (.ex x h) => some (.ex x e h)
  | none => none
def boolF (o : Option Out) (e : Env) (k : Bool → Sto → Option Fl) : Option Fl := match o with
  | some (.ok (.d (.bl b)) h) => k b h
  | some (.ex x h) => some (.ex x e h)
  | _ => none
section
open Classical
/-- a for over items that are known -/
noncomputable def forL (src : Option Nat) (all : List D) (t : T) (b : Env → Sto → Option Fl) : List D → Env → Sto → Option Fl
  | [], e, h => if srcOk src all h then some (.nx e h) else none
  | x :: r, e, h => if srcOk src all h then match bindT t x e h with
      | some e1 => thenF (b e1 h) fun e2 h2 => forL src all t b r e2 h2
      | none => none
    else none
/-- a while, n turns at most -/
def whlF (c : Env → Sto → Option Out) (b : Env → Sto → Option Fl) : Nat → Env → Sto → Option Fl
  | 0, _, _ => none
  | n + 1, e, h => boolF (c e h) e fun k h1 => if k = true then thenF (b e h1) fun e2 h2 => whlF c b n e2 h2 else some (.nx e h1)
noncomputable def whlC (c : Env → Sto → Option Out) (b : Env → Sto → Option Fl) (e : Env) (h : Sto) : Option Fl :=
  if q : ∃ n, whlF c b n e h ≠ none then whlF c b (Classical.choose q) e h else none
theorem whlF_step {c : Env → Sto → Option Out} {b : Env → Sto → Option Fl} : ∀ {n : Nat} {e : Env} {h : Sto} {r : Fl}, whlF c b n e h = some r → whlF c b (n + 1) e h = some r
  | 0, _, _, _, q => by cases q
  | n + 1, e, h, r, q => by
    rw [whlF] at q ⊢
    generalize c e h = o at q ⊢
    cases o with
    | none => exact q
    | some o => cases o with
      | ex x h1 => exact q
      | ok v h1 => cases v with
        | tl _ => exact q
        | td _ => exact q
        | d v => cases v with
          | bl k =>
            simp only [boolF] at q ⊢
            cases k with
            | false => exact q
            | true =>
              simp only [if_true] at q ⊢
              generalize b e h1 = o2 at q ⊢
              cases o2 with
              | none => exact q
              | some f => cases f with
                | nx e2 h2 => exact whlF_step q
                | rt _ _ => exact q
                | ex _ _ _ => exact q
          | _ => exact q
theorem whlF_mono {c : Env → Sto → Option Out} {b : Env → Sto → Option Fl} {e : Env} {h : Sto} {r : Fl} {n : Nat} (q : whlF c b n e h = some r) : ∀ {m : Nat}, n ≤ m → whlF c b m e h = some r := by
  intro m hm
  induction hm with
  | refl => exact q
  | step _ ih => exact whlF_step ih
theorem whlC_some {c : Env → Sto → Option Out} {b : Env → Sto → Option Fl} {e : Env} {h : Sto} {r : Fl} {n : Nat} (q : whlF c b n e h = some r) : whlC c b e h = some r := by
  have ex : ∃ n, whlF c b n e h ≠ none := ⟨n, by rw [q]; exact fun z => nomatch z⟩
  unfold whlC
  rw [dif_pos ex]
  obtain ⟨r', q'⟩ := Option.ne_none_iff_exists'.mp (Classical.choose_spec ex)
  rw [q']
  have a := whlF_mono q (Nat.le_max_left n (Classical.choose ex))
  have b := whlF_mono q' (Nat.le_max_right n (Classical.choose ex))
  rw [a] at b
  exact b.symm
theorem whlC_of {c : Env → Sto → Option Out} {b : Env → Sto → Option Fl} {e : Env} {h : Sto} {r : Fl} (q : whlC c b e h = some r) : ∃ n, whlF c b n e h = some r := by
  unfold whlC at q
  split at q
  · exact ⟨_, q⟩
  · cases q
/-- one turn of a while -/
theorem whlC_eq (c : Env → Sto → Option Out) (b : Env → Sto → Option Fl) (e : Env) (h : Sto) :
    whlC c b e h = boolF (c e h) e fun k h1 => if k = true then thenF (b e h1) fun e2 h2 => whlC c b e2 h2 else some (.nx e h1) := by
  have fwd : ∀ r, whlC c b e h = some r → (boolF (c e h) e fun k h1 => if k = true then thenF (b e h1) fun e2 h2 => whlC c b e2 h2 else some (.nx e h1)) = some r := by
    intro r q
    obtain ⟨n, q⟩ := whlC_of q
    cases n with
    | zero => cases q
    | succ n =>
      rw [whlF] at q
      generalize c e h = o at q ⊢
      cases o with
      | none => exact q
      | some o => cases o with
        | ex x h1 => exact q
        | ok v h1 => cases v with
          | tl _ => exact q
          | td _ => exact q
          | d v => cases v with
            | bl k =>
              simp only [boolF] at q ⊢
              cases k with
              | false => exact q
              | true =>
                simp only [if_true] at q ⊢
                generalize b e h1 = o2 at q ⊢
                cases o2 with
                | none => exact q
                | some f => cases f with
                  | nx e2 h2 => exact whlC_some q
                  | rt _ _ => exact q
                  | ex _ _ _ => exact q
            | _ => exact q
  have bwd : ∀ r, (boolF (c e h) e fun k h1 => if k = true then thenF (b e h1) fun e2 h2 => whlC c b e2 h2 else some (.nx e h1)) = some r → whlC c b e h = some r := by
    intro r q
    have go : ∃ n, whlF c b n e h = some r := by
      generalize ho : c e h = o at q
      cases o with
      | none => cases q
      | some o => cases o with
        | ex x h1 => exact ⟨1, by rw [whlF, ho]; exact q⟩
        | ok v h1 => cases v with
          | tl _ => cases q
          | td _ => cases q
          | d v => cases v with
            | bl k =>
              simp only [boolF] at q
              cases k with
              | false => exact ⟨1, by rw [whlF, ho]; exact q⟩
              | true =>
                simp only [if_true] at q
                generalize hb : b e h1 = o2 at q
                cases o2 with
                | none => cases q
                | some f => cases f with
                  | nx e2 h2 =>
                    obtain ⟨n, qn⟩ := whlC_of q
                    exact ⟨n + 1, by rw [whlF, ho]; simp only [boolF, if_true]; rw [hb]; exact qn⟩
                  | rt _ _ => exact ⟨1, by rw [whlF, ho]; simp only [boolF, if_true]; rw [hb]; exact q⟩
                  | ex _ _ _ => exact ⟨1, by rw [whlF, ho]; simp only [boolF, if_true]; rw [hb]; exact q⟩
            | _ => cases q
    obtain ⟨n, qn⟩ := go
    exact whlC_some qn
  cases q : whlC c b e h with
  | some r => exact (fwd r q).symm
  | none =>
    cases q2 : (boolF (c e h) e fun k h1 => if k = true then thenF (b e h1) fun e2 h2 => whlC c b e2 h2 else some (.nx e h1)) with
    | none => rfl
    | some r => rw [bwd r q2] at q; cases q

def setixV (h : Sto) (o i x : D) (e : Env) : Option Fl := match o, i with
  | .ref n, .int k => match h[n]? with
    | some (.lst xs) => match L2.ixN xs.length k with
      | some j => some (.nx e (h.set n (.lst (xs.set j x))))
      | none => none
    | _ => none
  | _, _ => none
noncomputable def exS (G : Ctx) : S → Env → Sto → Option Fl
  | .nil, e, h => some (.nx e h)
  | .pass, e, h => some (.nx e h)
  | .cons s r, e, h => thenF (exS G s e h) (exS G r)
  | .set t x, e, h => valF (evE G x e h) e fun r h1 => setT t r e h1
  | .par i j a c, e, h => valF (evE G a e h) e fun x h1 => valF (evE G c e h1) e fun y h2 => some (.nx ((e.set i (some x.sh)).set j (some y.sh)) h2)
  | .setix o i x, e, h => valF (evE G x e h) e fun r h1 => valF (evE G o e h1) e fun ro h2 => valF (evE G i e h2) e fun ri h3 => setixV h3 ro.sh ri.sh r.sh e
  | .aug i o x, e, h => match e[i]? with
    | some (some d) => valF (evE G x e h) e fun r h1 => match o, d, r with
      | .add, .int a, .d (.int b) => some (.nx (e.set i (some (.int (a + b)))) h1)
      | _, _, _ => none
    | _ => none
  | .ret x, e, h => valF (evE G x e h) e fun r h1 => some (.rt r h1)
  | .retn, _, h => some (.rt (.d .non) h)
  | .ifs c a b, e, h => boolF (evE G c e h) e fun k h1 => if k = true then exS G a e h1 else exS G b e h1
  | .whl c b, e, h => whlC (evE G c) (exS G b) e h
  | .fr t it b, e, h => match evI G it e h with
    | some (.ok ds src h1) => forL src ds t (exS G b) ds e h1
    | some (.ex x h1) => some (.ex x e h1)
    | none => none
  | .expr x, e, h => valF (evE G x e h) e fun _ h1 => some (.nx e h1)
  | .rais x, e, h => some (.ex ⟨x, []⟩ e h)
  | .raisf x f v, e, h => valF (evE G v e h) e fun r h1 => some (.ex ⟨x, [(f, r.sh)]⟩ e h1)
  | .try1 b x none s els, e, h => match exS G b e h with
    | some (.nx e1 h1) => exS G els e1 h1
    | some (.rt r h1) => some (.rt r h1)
    | some (.ex y e1 h1) => if G.sub y.cls x = true then exS G s e1 h1 else some (.ex y e1 h1)
    | none => none
  | .try1 b x (some i) s els, e, h => match exS G b e h with
    | some (.nx e1 h1) => exS G els e1 h1
    | some (.rt r h1) => some (.rt r h1)
    | some (.ex y e1 h1) => if G.sub y.cls x = true then thenF (exS G s (e1.set i (some (.exn y.cls y.fs))) h1) fun e2 h2 => some (.nx (e2.set i none) h2) else some (.ex y e1 h1)
    | none => none
  | .setfld _ _ _, _, _ => none

/-! ### calls -/
mutual
def D.low (n : Nat) : D → Bool
  | .ref m => decide (m < n)
  | .tup xs => lows n xs
  | .lst xs => lows n xs
  | .fz xs => lows n xs
  | .dct kvs => lowp n kvs
  | .exn _ fs => lowf n fs
  | _ => true
def lows (n : Nat) : List D → Bool
  | [] => true
  | x :: r => D.low n x && lows n r
def lowp (n : Nat) : List (D × D) → Bool
  | [] => true
  | (x, y) :: r => D.low n x && D.low n y && lowp n r
def lowf (n : Nat) : List (Str × D) → Bool
  | [] => true
  | (_, y) :: r => D.low n y && lowf n r
end
def Ob.low (n : Nat) : Ob → Bool
  | .lst xs => lows n xs
  | .dct kvs => lowp n kvs
  | .ins _ fs => lowf n fs
/-- the objects of h0 are as they were, or lean on no younger one -/
def tidy (h0 h : Sto) : Prop := ∀ i, i < h0.length → h[i]? = h0[i]? ∨ ∃ o, h[i]? = some o ∧ o.low h0.length = true
mutual
/-- a younger list, seen as one that nobody will change -/
def frz (n : Nat) (h : Sto) : D → Option D
  | .ref m => if m < n then some (.ref m) else match h[m]? with
    | some (.lst xs) => if lows n xs then some (.lst xs) else none
    | some (.dct xs) => if lowp n xs then some (.dct xs) else none
    | _ => none
  | .tup xs => (frzs n h xs).map .tup
  | d => if d.low n then some d else none
def frzs (n : Nat) (h : Sto) : List D → Option (List D)
  | [] => some []
  | x :: r => (frz n h x).bind fun a => (frzs n h r).map fun b => a :: b
end
noncomputable def retV (keep : Bool) (h0 : Sto) (r : R) (h : Sto) : Out :=
  if keep = false ∧ tidy h0 h then match r with
    | .d (.ref m) => if m < h0.length then .ok r (h.take h0.length) else match h[m]? with
      | some (.lst xs) => if lows h0.length xs then .ok (.tl xs) (h.take h0.length) else .ok r h
      | some (.dct xs) => if lowp h0.length xs then .ok (.td xs) (h.take h0.length) else .ok r h
      | _ => .ok r h
    | .d d => match frz h0.length h d with
      | some d' => .ok (.d d') (h.take h0.length)
      | none => .ok r h
    | .tl xs => if lows h0.length xs then .ok r (h.take h0.length) else .ok r h
    | .td xs => if lowp h0.length xs then .ok r (h.take h0.length) else .ok r h
  else .ok r h
noncomputable def fin (keep : Bool) (h0 : Sto) : Option Fl → Option Out
  | some (.nx _ h) => some (retV keep h0 (.d .non) h)
  | some (.rt r h) => some (retV keep h0 r h)
  | some (.ex x _ h) => if tidy h0 h ∧ lowf h0.length x.fs = true then some (.ex x (h.take h0.length)) else some (.ex x h)
  | none => none
/-- a def: its parameters, its names in all, its body -/
structure Def where
  np : Nat
  n : Nat
  body : S
  keep : Bool
def env0 (n : Nat) (as : List D) : Env := as.map some ++ List.replicate (n - as.length) none
structure Prog where
  defs : List (Str × Def)
  csts : List (Str × D)
  subs : Str → Str → Bool
/-- a call, so many calls deep -/
noncomputable def callF (P : Prog) : Nat → Str → List D → Sto → Option Out
  | 0, _, _, _ => none
  | k + 1, f, as, h => match P.defs.lookup f with
    | some d => if as.length = d.np then fin d.keep h (exS ⟨callF P k, fun x => P.csts.lookup x, P.subs⟩ d.body (env0 d.n as) h) else none
    | none => none
noncomputable abbrev ctx (P : Prog) (k : Nat) : Ctx := ⟨callF P k, fun x => P.csts.lookup x, P.subs⟩
end
end Tc

/-! Tc: how trees and the store stand in the heap. -/
namespace Tc
open PySem L2

/-- the module: its written part, the addresses of its classes -/
structure Mo where
  K : PySem.W.Frag
  ca : Str → Option Addr

/-- a list that nothing changes: known to the object, or of the module -/
def Fz (K : PySem.W.Frag) (H : Hp) (a : Addr) (xs : List V) : Prop :=
  (∃ o, H a = some (.frz o (.lst xs))) ∨ ∃ (o : Obj) (its : Array Value) (n : Nat), K.lookup a = some o ∧ o.cls = .type "list" ∧ o.dict = none ∧ o.data = .seq its n ∧ its.size ≤ sizeLine ∧ Vals xs its.toList
theorem Fz.sql {K : PySem.W.Frag} {H : Hp} {a : Addr} {xs : List V} (h : Fz K H a xs) : SqL K H a xs := h.imp (fun ⟨o, q⟩ => .inr ⟨o, q⟩) id
section
variable (M : Mo) (ρ : List Addr) (X : Addr → Prop) (H : Hp)
mutual
/-- d stands at v; ρ: the store's addresses; no tree leans on a list of X -/
inductive Rp : D → V → Prop
  | non : Rp .non .non
  | bl (b : Bool) : Rp (.bl b) (.bl b)
  | int (i : Int) : Rp (.int i) (.int i)
  | str (x : Str) : PyData.strOk x = true → Rp (.str x) (.str x)
  | tup {a : Addr} {xs : List D} {vs : List V} : SqT M.K H a vs → Rps xs vs → Rp (.tup xs) (.ref a)
  | lst {a : Addr} {xs : List D} {vs : List V} : H a = some (.lst vs) → ¬ X a → Rps xs vs → Rp (.lst xs) (.ref a)
  | fz {a : Addr} {xs : List D} {vs : List V} : Fz M.K H a vs → Rps xs vs → Rp (.fz xs) (.ref a)
  | dct {a : Addr} {xs : List (D × D)} {vs : List (Key × V)} : H a = some (.dK vs) → ¬ X a → Rpk xs vs → Rp (.dct xs) (.ref a)
  | ref {n : Nat} {a : Addr} : ρ[n]? = some a → Rp (.ref n) (.ref a)
inductive Rps : List D → List V → Prop
  | nil : Rps [] []
  | cons {d : D} {ds : List D} {v : V} {vs : List V} : Rp d v → Rps ds vs → Rps (d :: ds) (v :: vs)
inductive Rpk : List (D × D) → List (Key × V) → Prop
  | nil : Rpk [] []
  | str {x : Str} {d : D} {ds : List (D × D)} {v : V} {vs : List (Key × V)} : PyData.strOk x = true → Rp d v → Rpk ds vs → Rpk ((.str x, d) :: ds) ((.inr x, v) :: vs)
end
/-- an object of the store -/
inductive RpO : Ob → HO → Prop
  | lst {xs : List D} {vs : List V} : Rps M ρ X H xs vs → RpO (.lst xs) (.lst vs)
  | dct {xs : List (D × D)} {vs : List (Key × V)} : Rpk M ρ X H xs vs → RpO (.dct xs) (.dK vs)
end

section
variable {M : Mo} {ρ ρ' : List Addr} {X X' : Addr → Prop} {H H' : Hp}
/-- what a tree leans on, kept -/
structure Kp (ρ ρ' : List Addr) (X X' : Addr → Prop) (H H' : Hp) : Prop where
  pre : ∀ (n : Nat) (a : Addr), ρ[n]? = some a → ρ'[n]? = some a
  tups : ∀ a xs, H a = some (.tup xs) → H' a = some (.tup xs)
  frzs : ∀ a o u, H a = some (.frz o u) → H' a = some (.frz o u)
  keep : ∀ a u, H a = some u → ¬ X a → H' a = some u ∧ ¬ X' a
theorem sqT_keep {a : Addr} {vs : List V} (k : Kp ρ ρ' X X' H H') (h : SqT M.K H a vs) : SqT M.K H' a vs := by
  rcases h with (h | ⟨o, h⟩) | h
  · exact .inl (.inl (k.tups _ _ h))
  · exact .inl (.inr ⟨o, k.frzs _ _ _ h⟩)
  · exact .inr h
mutual
theorem Rp.keep (k : Kp ρ ρ' X X' H H') : ∀ {d : D} {v : V}, Rp M ρ X H d v → Rp M ρ' X' H' d v
  | _, _, .non => .non
  | _, _, .bl b => .bl b
  | _, _, .int i => .int i
  | _, _, .str x h => .str x h
  | _, _, .tup h r => .tup (sqT_keep k h) (Rps.keep k r)
  | _, _, .lst h n r => .lst (k.keep _ _ h n).1 (k.keep _ _ h n).2 (Rps.keep k r)
  | _, _, .fz h r => .fz (h.imp (fun ⟨o, q⟩ => ⟨o, k.frzs _ _ _ q⟩) id) (Rps.keep k r)
  | _, _, .dct h n r => .dct (k.keep _ _ h n).1 (k.keep _ _ h n).2 (Rpk.keep k r)
  | _, _, .ref h => .ref (k.pre _ _ h)
theorem Rps.keep (k : Kp ρ ρ' X X' H H') : ∀ {ds : List D} {vs : List V}, Rps M ρ X H ds vs → Rps M ρ' X' H' ds vs
  | _, _, .nil => .nil
  | _, _, .cons h r => .cons (Rp.keep k h) (Rps.keep k r)
theorem Rpk.keep (k : Kp ρ ρ' X X' H H') : ∀ {ds : List (D × D)} {vs : List (Key × V)}, Rpk M ρ X H ds vs → Rpk M ρ' X' H' ds vs
  | _, _, .nil => .nil
  | _, _, .str s h r => .str s (Rp.keep k h) (Rpk.keep k r)
end
theorem RpO.keep (k : Kp ρ ρ' X X' H H') {o : Ob} {u : HO} : RpO M ρ X H o u → RpO M ρ' X' H' o u
  | .lst h => .lst (h.keep k)
  | .dct h => .dct (h.keep k)
theorem Rps.length : ∀ {ds : List D} {vs : List V}, Rps M ρ X H ds vs → ds.length = vs.length
  | _, _, .nil => rfl
  | _, _, .cons _ r => by rw [List.length_cons, List.length_cons, Rps.length r]
theorem Rps.get : ∀ {ds : List D} {vs : List V} {i : Nat} {d : D}, Rps M ρ X H ds vs → ds[i]? = some d → ∃ v, vs[i]? = some v ∧ Rp M ρ X H d v
  | _, _, _, _, .nil, e => by simp at e
  | _, _, 0, _, .cons h _, e => by simp at e; subst e; exact ⟨_, rfl, h⟩
  | _, _, i + 1, _, .cons _ r, e => by
    obtain ⟨v, h1, h2⟩ := Rps.get (i := i) r (by simpa using e)
    exact ⟨v, by simpa using h1, h2⟩
theorem Rps.append : ∀ {ds es : List D} {vs us : List V}, Rps M ρ X H ds vs → Rps M ρ X H es us → Rps M ρ X H (ds ++ es) (vs ++ us)
  | _, _, _, _, .nil, s => s
  | _, _, _, _, .cons h r, s => .cons h (Rps.append r s)
theorem Rps.take : ∀ {ds : List D} {vs : List V} (n : Nat), Rps M ρ X H ds vs → Rps M ρ X H (ds.take n) (vs.take n)
  | _, _, 0, _ => by simpa using Rps.nil
  | _, _, n + 1, .nil => by simpa using Rps.nil
  | _, _, n + 1, .cons h r => by simpa using Rps.cons h (Rps.take n r)
theorem Rps.drop : ∀ {ds : List D} {vs : List V} (n : Nat), Rps M ρ X H ds vs → Rps M ρ X H (ds.drop n) (vs.drop n)
  | _, _, 0, r => by simpa using r
  | _, _, n + 1, .nil => by simpa using Rps.nil
  | _, _, n + 1, .cons _ r => by simpa using Rps.drop n r
theorem Rps.set {d : D} {v : V} (h : Rp M ρ X H d v) : ∀ {ds : List D} {vs : List V} (i : Nat), Rps M ρ X H ds vs → Rps M ρ X H (ds.set i d) (vs.set i v)
  | _, _, _, .nil => .nil
  | _, _, 0, .cons _ r => .cons h r
  | _, _, i + 1, .cons q r => .cons q (Rps.set h i r)
theorem Rps.dropLast {ds : List D} {vs : List V} (h : Rps M ρ X H ds vs) : Rps M ρ X H ds.dropLast vs.dropLast := by
  rw [List.dropLast_eq_take, List.dropLast_eq_take, ← h.length]
  exact h.take _
theorem Rps.of_append : ∀ {ds : List D} {d : D} {vs : List V}, Rps M ρ X H ds vs → ∀ {v : V}, Rp M ρ X H d v → Rps M ρ X H (ds ++ [d]) (vs ++ [v]) :=
  fun h _ q => h.append (.cons q .nil)
theorem Rps.rep {ds : List D} {vs : List V} (h : Rps M ρ X H ds vs) : ∀ n : Nat, Rps M ρ X H (List.replicate n ds).flatten (List.replicate n vs).flatten
  | 0 => by simpa using Rps.nil
  | n + 1 => by
    rw [List.replicate_succ, List.replicate_succ, List.flatten_cons, List.flatten_cons]
    exact h.append (Rps.rep h n)

/-! ### data, for == -/
mutual
theorem Rp.dp {M : Mo} {ρ : List Addr} {X : Addr → Prop} {H : Hp} : ∀ {d : D} {v : V} {p : PyData}, Rp M ρ X H d v → d.dat = some p → Dp M.K H v p ∧ p.canLay0 = true
  | _, _, p, .non, e => by
    simp only [D.dat, Option.some.injEq] at e
    subst e
    exact ⟨.non, by simp [PyData.canLay0]⟩
  | _, _, p, .bl b, e => by
    simp only [D.dat, Option.some.injEq] at e
    subst e
    exact ⟨.bl b, by simp [PyData.canLay0]⟩
  | _, _, p, .int b, e => by
    simp only [D.dat, Option.some.injEq] at e
    subst e
    exact ⟨.int b, by simp [PyData.canLay0]⟩
  | _, _, p, .str b h, e => by
    simp only [D.dat, Option.some.injEq] at e
    subst e
    exact ⟨.str b, by simpa [PyData.canLay0] using h⟩
  | _, _, p, .tup h r, e => by
    simp only [D.dat, Option.map_eq_some_iff] at e
    obtain ⟨ps, e, rfl⟩ := e
    have q := Rps.dp r e
    exact ⟨.tup h q.1, by simpa [PyData.canLay0] using q.2⟩
  | _, _, p, .lst h _ r, e => by
    simp only [D.dat, Option.map_eq_some_iff] at e
    obtain ⟨ps, e, rfl⟩ := e
    have q := Rps.dp r e
    exact ⟨.lst (.inl (.inl h)) q.1, by simpa [PyData.canLay0] using q.2⟩
  | _, _, p, .fz h r, e => by
    simp only [D.dat, Option.map_eq_some_iff] at e
    obtain ⟨ps, e, rfl⟩ := e
    have q := Rps.dp r e
    exact ⟨.lst h.sql q.1, by simpa [PyData.canLay0] using q.2⟩
  | _, _, p, .dct _ _ _, e => by simp [D.dat] at e
  | _, _, p, .ref _, e => by simp [D.dat] at e
theorem Rps.dp {M : Mo} {ρ : List Addr} {X : Addr → Prop} {H : Hp} : ∀ {ds : List D} {vs : List V} {ps : List PyData}, Rps M ρ X H ds vs → dats ds = some ps → DpAll M.K H vs ps ∧ PyData.canLayAll0 ps = true
  | _, _, p, .nil, e => by
    simp only [dats, Option.some.injEq] at e
    subst e
    exact ⟨.nil, by simp [PyData.canLayAll0]⟩
  | _, _, p, .cons h r, e => by
    simp only [dats, Option.bind_eq_some_iff, Option.map_eq_some_iff] at e
    obtain ⟨a, e1, b, e2, rfl⟩ := e
    have q1 := Rp.dp h e1
    have q2 := Rps.dp r e2
    exact ⟨.cons q1.1 q2.1, by simp [PyData.canLayAll0, q1.2, q2.2]⟩
end
end

/-! ### the whole state -/
/-- the store h stands at ρ, the names e at the slots σ -/
structure Ab (M : Mo) (ρ : List Addr) (X : Addr → Prop) (e : Env) (h : Sto) (σ : St) (H : Hp) : Prop where
  hl : h.length = ρ.length
  nd : ρ.Nodup
  ob : ∀ (n : Nat) (o : Ob), h[n]? = some o → ∃ a u, ρ[n]? = some a ∧ H a = some u ∧ RpO M ρ X H o u
  el : e.length = σ.length
  env : ∀ (i : Nat) (d : D), e[i]? = some (some d) → ∃ v, σ[i]? = some (some v) ∧ Rp M ρ X H d v
  fx : ∀ a, X a → ∃ u, H a = some u
/-- what no tree may lean on: the store's objects, what is shut off besides -/
abbrev Xo (F : Addr → Prop) (ρ : List Addr) : Addr → Prop := fun a => a ∈ ρ ∨ F a
abbrev Ab0 (M : Mo) (F : Addr → Prop) (ρ : List Addr) (e : Env) (h : Sto) (σ : St) (H : Hp) : Prop := Ab M ρ (Xo F ρ) e h σ H
abbrev Rp0 (M : Mo) (F : Addr → Prop) (ρ : List Addr) (H : Hp) (d : D) (v : V) : Prop := Rp M ρ (Xo F ρ) H d v
abbrev Rps0 (M : Mo) (F : Addr → Prop) (ρ : List Addr) (H : Hp) (d : List D) (v : List V) : Prop := Rps M ρ (Xo F ρ) H d v

/-- what was, what is: the store's objects may have changed, new ones may have come -/
structure Step (ρ : List Addr) (H : Hp) (ρ' : List Addr) (H' : Hp) : Prop where
  pre : ∀ (n : Nat) (a : Addr), ρ[n]? = some a → ρ'[n]? = some a
  new : ∀ a, a ∈ ρ' → a ∈ ρ ∨ H a = none
  keep : ∀ a u, H a = some u → a ∉ ρ → H' a = some u
  tups : ∀ a xs, H a = some (.tup xs) → H' a = some (.tup xs)
  frzs : ∀ a o u, H a = some (.frz o u) → H' a = some (.frz o u)
  back : ∀ a, H' a = none → H a = none
section
variable {M : Mo} {F : Addr → Prop} {ρ ρ' ρ1 ρ2 : List Addr} {X X' : Addr → Prop} {H H' H1 H2 : Hp} {e : Env} {h : Sto} {σ : St}
theorem Step.refl (ρ : List Addr) (H : Hp) : Step ρ H ρ H := ⟨fun _ _ e => e, fun _ e => .inl e, fun _ _ e _ => e, fun _ _ e => e, fun _ _ _ e => e, fun _ e => e⟩
theorem Step.mem (s : Step ρ H ρ' H') {a : Addr} (h : a ∈ ρ) : a ∈ ρ' := by
  obtain ⟨n, e⟩ := List.getElem?_of_mem h
  exact List.mem_of_getElem? (s.pre n a e)
theorem Step.trans (s : Step ρ H ρ1 H1) (t : Step ρ1 H1 ρ2 H2) : Step ρ H ρ2 H2 where
  pre := fun n a e => t.pre n a (s.pre n a e)
  new := fun a m => by
    rcases t.new a m with m | m
    · exact s.new a m
    · exact .inr (s.back a m)
  keep := fun a u e n => t.keep a u (s.keep a u e n) fun m => by
    rcases s.new a m with m | m
    · exact n m
    · rw [m] at e; cases e
  tups := fun a xs e => t.tups a xs (s.tups a xs e)
  frzs := fun a o u e => t.frzs a o u (s.frzs a o u e)
  back := fun a e => s.back a (t.back a e)
theorem Step.kp (s : Step ρ H ρ' H') : Kp ρ ρ' (Xo F ρ) (Xo F ρ') H H' :=
  ⟨s.pre, s.tups, s.frzs, fun a u e n => ⟨s.keep a u e fun z => n (.inl z), fun m => by
    rcases m with m | m
    · rcases s.new a m with m | m
      · exact n (.inl m)
      · rw [m] at e; cases e
    · exact n (.inr m)⟩⟩
/-- the heap has only grown -/
def Ext (H H' : Hp) : Prop := ∀ a u, H a = some u → H' a = some u
theorem Ext.refl (H : Hp) : Ext H H := fun _ _ e => e
theorem Ext.trans (a : Ext H H1) (b : Ext H1 H2) : Ext H H2 := fun x u e => b x u (a x u e)
theorem Ext.upd {a : Addr} {o : HO} (n : H a = none) : Ext H (upd H a o) := fun b u e => by
  rw [upd_ne (ne_of_none e n)]
  exact e
theorem Ext.back (x : Ext H H') {a : Addr} (n : H' a = none) : H a = none := by
  cases q : H a with
  | none => rfl
  | some u => rw [x a u q] at n; cases n
theorem Ext.step (x : Ext H H') (ρ : List Addr) : Step ρ H ρ H' := ⟨fun _ _ e => e, fun _ e => .inl e, fun a u e _ => x a u e, fun a xs e => x a _ e, fun a o u e => x a _ e, fun a n => x.back n⟩
theorem Ext.kp (x : Ext H H') (ρ : List Addr) (X : Addr → Prop) : Kp ρ ρ X X H H' := ⟨fun _ _ e => e, fun a xs e => x a _ e, fun a o u e => x a _ e, fun a u e n => ⟨x a u e, n⟩⟩
/-- .. a new address shut off -/
theorem Ext.kpx {a : Addr} (x : Ext H H') (n : H a = none) (ρ : List Addr) (X : Addr → Prop) : Kp ρ ρ X (fun b => b = a ∨ X b) H H' :=
  ⟨fun _ _ e => e, fun a xs e => x a _ e, fun a o u e => x a _ e, fun b u e m => ⟨x b u e, fun z => by
    rcases z with z | z
    · subst z; rw [n] at e; cases e
    · exact m z⟩⟩
/-- less is shut off -/
theorem Kp.less (H : Hp) (ρ : List Addr) (hx : ∀ a, X' a → X a) : Kp ρ ρ X X' H H := ⟨fun _ _ e => e, fun _ _ e => e, fun _ _ _ e => e, fun a u e n => ⟨e, fun z => n (hx a z)⟩⟩

theorem Ab.notin (A : Ab M ρ X e h σ H) {a : Addr} (n : H a = none) : ¬ X a := fun m => by
  obtain ⟨u, q⟩ := A.fx a m
  rw [n] at q; cases q
/-- objects kept, the heap grown -/
theorem Ab.ext (A : Ab M ρ X e h σ H) (x : Ext H H') (k : Kp ρ ρ X X' H H') (fx : ∀ a, X' a → ∃ u, H' a = some u) : Ab M ρ X' e h σ H' where
  hl := A.hl
  nd := A.nd
  ob := fun n o q => by
    obtain ⟨a, u, q1, q2, q3⟩ := A.ob n o q
    exact ⟨a, u, q1, x a u q2, q3.keep k⟩
  el := A.el
  env := fun i d q => by
    obtain ⟨v, q1, q2⟩ := A.env i d q
    exact ⟨v, q1, q2.keep k⟩
  fx := fx
theorem Ab.grow (A : Ab M ρ X e h σ H) (x : Ext H H') : Ab M ρ X e h σ H' := A.ext x (x.kp ρ X) fun a m => by
  obtain ⟨u, q⟩ := A.fx a m
  exact ⟨u, x a u q⟩
theorem Ab.less (A : Ab M ρ X e h σ H) (hx : ∀ a, X' a → X a) : Ab M ρ X' e h σ H := A.ext (Ext.refl H) (Kp.less H ρ hx) fun a m => A.fx a (hx a m)
theorem Ab.noenv (A : Ab M ρ X e h σ H) : Ab M ρ X [] h [] H := ⟨A.hl, A.nd, A.ob, rfl, fun i d q => by simp at q, A.fx⟩
/-- a new address shut off -/
theorem Ab.shut {a : Addr} {u : HO} (A : Ab M ρ X e h σ H) (x : Ext H H') (n : H a = none) (q : H' a = some u) : Ab M ρ (fun b => b = a ∨ X b) e h σ H' := A.ext x (x.kpx n ρ X) fun b m => by
  rcases m with m | m
  · exact ⟨u, by rw [m]; exact q⟩
  · obtain ⟨w, q⟩ := A.fx b m
    exact ⟨w, x b w q⟩
theorem Ab.setEnv {i : Nat} {d : D} {v : V} (A : Ab M ρ X e h σ H) (r : Rp M ρ X H d v) : Ab M ρ X (e.set i (some d)) h (σ.set i (some v)) H where
  hl := A.hl
  nd := A.nd
  ob := A.ob
  fx := A.fx
  el := by rw [List.length_set, List.length_set, A.el]
  env := fun j c q => by
    by_cases hj : i = j
    · subst hj
      by_cases hlt : i < e.length
      · rw [List.getElem?_set_self hlt] at q
        cases q
        exact ⟨v, List.getElem?_set_self (by rw [← A.el]; exact hlt), r⟩
      · rw [List.getElem?_eq_none (by simpa using hlt)] at q; cases q
    · rw [List.getElem?_set_ne hj] at q
      rw [List.getElem?_set_ne hj]
      exact A.env j c q
theorem Ab.clrEnv {i : Nat} (A : Ab M ρ X e h σ H) : Ab M ρ X (e.set i none) h (σ.set i none) H where
  hl := A.hl
  nd := A.nd
  ob := A.ob
  fx := A.fx
  el := by rw [List.length_set, List.length_set, A.el]
  env := fun j c q => by
    by_cases hj : i = j
    · subst hj
      by_cases hlt : i < e.length
      · rw [List.getElem?_set_self hlt] at q
        cases q
      · rw [List.getElem?_eq_none (by simpa using hlt)] at q; cases q
    · rw [List.getElem?_set_ne hj] at q
      rw [List.getElem?_set_ne hj]
      exact A.env j c q
/-- a new object joins the store -/
theorem Ab.join {a : Addr} {o : Ob} {u : HO} (A : Ab M ρ (fun b => b = a ∨ Xo F ρ b) e h σ H) (n : ¬ Xo F ρ a) (q : H a = some u) (r : RpO M ρ (fun b => b = a ∨ Xo F ρ b) H o u) : Ab0 M F (ρ ++ [a]) e (h ++ [o]) σ H := by
  have k : Kp ρ (ρ ++ [a]) (fun b => b = a ∨ Xo F ρ b) (Xo F (ρ ++ [a])) H H := ⟨fun m b e => by
      rw [List.getElem?_append_left (List.getElem?_eq_some_iff.mp e).1]; exact e, fun _ _ e => e, fun _ _ _ e => e, fun b v e m => ⟨e, fun z => m (by
        rcases z with z | z
        · rcases List.mem_append.mp z with z | z
          · exact .inr (.inl z)
          · exact .inl (by simpa using z)
        · exact .inr (.inr z))⟩⟩
  refine ⟨by rw [List.length_append, List.length_append, A.hl]; rfl, ?_, fun m c w => ?_, A.el, fun i d w => ?_, fun b m => ?_⟩
  · rw [List.nodup_append]
    refine ⟨A.nd, by simp, fun x hx y hy => ?_⟩
    rintro rfl
    exact n (.inl (by rw [List.mem_singleton] at hy; rw [← hy]; exact hx))
  · by_cases hm : m < h.length
    · rw [List.getElem?_append_left hm] at w
      obtain ⟨b, v, q1, q2, q3⟩ := A.ob m c w
      exact ⟨b, v, k.pre _ _ q1, q2, q3.keep k⟩
    · have e1 : m = h.length := by
        have := (List.getElem?_eq_some_iff.mp w).1
        rw [List.length_append, List.length_singleton] at this
        omega
      subst e1
      rw [List.getElem?_append_right (Nat.le_refl _), Nat.sub_self] at w
      simp only [List.getElem?_cons_zero, Option.some.injEq] at w
      subst w
      refine ⟨a, u, ?_, q, r.keep k⟩
      rw [A.hl, List.getElem?_append_right (Nat.le_refl _), Nat.sub_self]
      rfl
  · obtain ⟨v, q1, q2⟩ := A.env i d w
    exact ⟨v, q1, q2.keep k⟩
  · refine A.fx b ?_
    rcases m with m | m
    · rcases List.mem_append.mp m with m | m
      · exact .inr (.inl m)
      · exact .inl (by simpa using m)
    · exact .inr (.inr m)
theorem Step.join {a : Addr} (s : Step ρ H ρ' H') (n : H a = none) : Step ρ H (ρ' ++ [a]) H' :=
  ⟨fun m b e => by rw [List.getElem?_append_left (List.getElem?_eq_some_iff.mp (s.pre m b e)).1]; exact s.pre m b e, fun b m => by
    rcases List.mem_append.mp m with m | m
    · exact s.new b m
    · rw [List.mem_singleton] at m; subst m; exact .inr n, s.keep, s.tups, s.frzs, s.back⟩
/-- an object of the store is changed -/
theorem Ab.put {n : Nat} {a : Addr} {o : Ob} {u w : HO} (A : Ab0 M F ρ e h σ H) (q : ρ[n]? = some a) (hw : H a = some w) (hm : Mut (some w)) (r : RpO M ρ (Xo F ρ) H o u) : Ab0 M F ρ e (h.set n o) σ (upd H a u) ∧ Step ρ H ρ (upd H a u) := by
  have ma : a ∈ ρ := List.mem_of_getElem? q
  have k : Kp ρ ρ (Xo F ρ) (Xo F ρ) H (upd H a u) := by
    refine ⟨fun _ _ e => e, fun b xs e => ?_, fun b o v e => ?_, fun b v e m => ⟨?_, m⟩⟩
    · rw [upd_ne]; exact e
      rintro rfl; rw [hw] at e; cases e; exact hm
    · rw [upd_ne]; exact e
      rintro rfl; rw [hw] at e; cases e; exact hm
    · rw [upd_ne]; exact e
      rintro rfl; exact m (.inl ma)
  have bk : ∀ b v, H b = some v → ∃ v', upd H a u b = some v' := fun b v e => by
    by_cases hb : b = a
    · subst hb; exact ⟨u, upd_same⟩
    · exact ⟨v, by rw [upd_ne hb]; exact e⟩
  refine ⟨⟨by rw [List.length_set, A.hl], A.nd, fun m c z => ?_, A.el, fun i d z => ?_, fun b m => ?_⟩, ⟨k.pre, fun b m => .inl m, fun b v e m => ?_, k.tups, k.frzs, fun b e => ?_⟩⟩
  · by_cases hmn : n = m
    · subst hmn
      by_cases hlt : n < h.length
      · rw [List.getElem?_set_self hlt] at z
        cases z
        exact ⟨a, u, q, upd_same, r.keep k⟩
      · rw [List.getElem?_eq_none (by simpa using hlt)] at z; cases z
    · rw [List.getElem?_set_ne hmn] at z
      obtain ⟨b, v, q1, q2, q3⟩ := A.ob m c z
      refine ⟨b, v, q1, ?_, q3.keep k⟩
      rw [upd_ne]; exact q2
      rintro rfl
      obtain ⟨i1, e1⟩ := List.getElem?_eq_some_iff.mp q
      obtain ⟨i2, e2⟩ := List.getElem?_eq_some_iff.mp q1
      exact hmn ((List.getElem_inj A.nd).mp (e1.trans e2.symm))
  · obtain ⟨v, q1, q2⟩ := A.env i d z
    exact ⟨v, q1, q2.keep k⟩
  · obtain ⟨v, q⟩ := A.fx b m
    exact bk b v q
  · rw [upd_ne]; exact e
    rintro rfl; exact m ma
  · cases z : H b with
    | none => rfl
    | some v =>
      obtain ⟨v', z'⟩ := bk b v z
      rw [e] at z'; cases z'
end

/-! ### what is wanted of an answer -/
section
variable (M : Mo) (W : WX) (F : Addr → Prop)
/-- behind an expression: H is the heap ahead of it -/
def PostR (H : Hp) (ρ' : List Addr) (H' : Hp) (e : Env) (h' : Sto) (σ : St) : R → V → Prop
  | .d d, v => Ab0 M F ρ' e h' σ H' ∧ Rp0 M F ρ' H' d v
  | .tl xs, v => ∃ a vs, v = .ref a ∧ H a = none ∧ ¬ Xo F ρ' a ∧ H' a = some (.lst vs) ∧ Ab M ρ' (fun b => b = a ∨ Xo F ρ' b) e h' σ H' ∧ Rps M ρ' (fun b => b = a ∨ Xo F ρ' b) H' xs vs
  | .td xs, v => ∃ a vs, v = .ref a ∧ H a = none ∧ ¬ Xo F ρ' a ∧ H' a = some (.dK vs) ∧ Ab M ρ' (fun b => b = a ∨ Xo F ρ' b) e h' σ H' ∧ Rpk M ρ' (fun b => b = a ∨ Xo F ρ' b) H' xs vs
/-- an exception: its class, its own dict -/
def RpX (ρ : List Addr) (H : Hp) (x : Exn) (cls : Value) (d : Option Addr) : Prop :=
  ∃ C, M.ca x.cls = some C ∧ cls = .ref C ∧ match x.fs with
    | [] => d = none
    | [(f, y)] => ∃ a v, d = some a ∧ H a = some (.xd [(f, v)]) ∧ Rp0 M F ρ H y v
    | _ => False
def AnsE (ρ : List Addr) (H : Hp) (e : Env) (σ : St) (o : Option Out) (Q : VK) : Prop := match o with
  | some (.ok r h') => ∀ v ρ' H', Step ρ H ρ' H' → PostR M F H ρ' H' e h' σ r v → Q v H'
  | some (.ex x h') => ∀ cls d ρ' H', Step ρ H ρ' H' → Ab0 M F ρ' e h' σ H' → RpX M F ρ' H' x cls d → W cls d σ H'
  | none => False
def AnsA (ρ : List Addr) (H : Hp) (e : Env) (σ : St) (o : Option OutA) (Q : List V → Hp → Prop) : Prop := match o with
  | some (.ok ds h') => ∀ vs ρ' H', Step ρ H ρ' H' → Ab0 M F ρ' e h' σ H' → Rps0 M F ρ' H' ds vs → Q vs H'
  | some (.ex x h') => ∀ cls d ρ' H', Step ρ H ρ' H' → Ab0 M F ρ' e h' σ H' → RpX M F ρ' H' x cls d → W cls d σ H'
  | none => False
def AnsF (ρ : List Addr) (H : Hp) (o : Option Fl) (Dn : Ends) : Prop := match o with
  | some (.nx e' h') => ∀ σ' ρ' H', Step ρ H ρ' H' → Ab0 M F ρ' e' h' σ' H' → Dn.nx σ' H'
  | some (.rt r h') => ∀ v ρ' H', Step ρ H ρ' H' → PostR M F H ρ' H' [] h' [] r v → Dn.rt v H'
  | some (.ex x e' h') => ∀ cls d σ' ρ' H', Step ρ H ρ' H' → Ab0 M F ρ' e' h' σ' H' → RpX M F ρ' H' x cls d → W cls d σ' H'
  | none => False
/-- by values: the store stays -/
def AnsV (ρ : List Addr) (H : Hp) (o : Option R) (Q : VK) : Prop := match o with
  | some (.d d) => ∀ v H', Ext H H' → Rp0 M F ρ H' d v → Q v H'
  | some (.tl xs) => ∀ a vs H', Ext H H' → H a = none → H' a = some (.lst vs) → Rps M ρ (fun b => b = a ∨ Xo F ρ b) H' xs vs → Q (.ref a) H'
  | some (.td xs) => ∀ a vs H', Ext H H' → H a = none → H' a = some (.dK vs) → Rpk M ρ (fun b => b = a ∨ Xo F ρ b) H' xs vs → Q (.ref a) H'
  | none => False
/-- an expression, an argument list, a statement -/
def tE (G : Ctx) (m : E) : TE := fun σ H Q => ∃ F ρ e h, Ab0 M F ρ e h σ H ∧ AnsE M W F ρ H e σ (evE G m e h) Q
def tA (G : Ctx) (m : E) : TA := fun σ H Q => ∃ F ρ e h, Ab0 M F ρ e h σ H ∧ AnsA M W F ρ H e σ (evA G m e h) Q
def tS (G : Ctx) (m : S) : TS := fun Dn σ H => ∃ F ρ e h, Ab0 M F ρ e h σ H ∧ AnsF M W F ρ H (exS G m e h) Dn
end
section
variable {M : Mo} {W : WX} {F : Addr → Prop} {ρ ρ' ρ1 ρ2 : List Addr} {H H' H1 H2 : Hp} {e : Env} {h : Sto} {σ : St} {r : R} {v : V}
theorem PostR.sh (p : PostR M F H ρ' H' e h σ r v) : Ab0 M F ρ' e h σ H' ∧ Rp0 M F ρ' H' r.sh v := by
  cases r with
  | d d => exact p
  | tl xs =>
    obtain ⟨a, vs, rfl, n, na, q, A, rs⟩ := p
    exact ⟨A.less fun b z => .inr z, .lst q na (rs.keep (Kp.less _ _ fun b z => .inr z))⟩
  | td xs =>
    obtain ⟨a, vs, rfl, n, na, q, A, rs⟩ := p
    exact ⟨A.less fun b z => .inr z, .dct q na (rs.keep (Kp.less _ _ fun b z => .inr z))⟩
theorem PostR.back (hb : ∀ a, H1 a = none → H a = none) (p : PostR M F H1 ρ' H' e h σ r v) : PostR M F H ρ' H' e h σ r v := by
  cases r with
  | d d => exact p
  | tl xs =>
    obtain ⟨a, vs, e, n, p⟩ := p
    exact ⟨a, vs, e, hb a n, p⟩
  | td xs =>
    obtain ⟨a, vs, e, n, p⟩ := p
    exact ⟨a, vs, e, hb a n, p⟩
theorem PostR.noenv (p : PostR M F H ρ' H' e h σ r v) : PostR M F H ρ' H' [] h [] r v := by
  cases r with
  | d d => exact ⟨p.1.noenv, p.2⟩
  | tl xs =>
    obtain ⟨a, vs, e, n, na, q, A, rs⟩ := p
    exact ⟨a, vs, e, n, na, q, A.noenv, rs⟩
  | td xs =>
    obtain ⟨a, vs, e, n, na, q, A, rs⟩ := p
    exact ⟨a, vs, e, n, na, q, A.noenv, rs⟩
theorem AnsE.later {o : Option Out} {Q : VK} (s : Step ρ H ρ1 H1) (a : AnsE M W F ρ H e σ o Q) : AnsE M W F ρ1 H1 e σ o Q := by
  cases o with
  | none => exact a
  | some o => cases o with
    | ok r h' => exact fun v ρ' H' t p => a v ρ' H' (s.trans t) (p.back s.back)
    | ex x h' => exact fun cls d ρ' H' t p => a cls d ρ' H' (s.trans t) p
theorem AnsA.later {o : Option OutA} {Q : List V → Hp → Prop} (s : Step ρ H ρ1 H1) (a : AnsA M W F ρ H e σ o Q) : AnsA M W F ρ1 H1 e σ o Q := by
  cases o with
  | none => exact a
  | some o => cases o with
    | ok r h' => exact fun v ρ' H' t p => a v ρ' H' (s.trans t) p
    | ex x h' => exact fun cls d ρ' H' t p => a cls d ρ' H' (s.trans t) p
theorem AnsF.later {o : Option Fl} {Dn : Ends} (s : Step ρ H ρ1 H1) (a : AnsF M W F ρ H o Dn) : AnsF M W F ρ1 H1 o Dn := by
  cases o with
  | none => exact a
  | some o => cases o with
    | nx e h' => exact fun v ρ' H' t p => a v ρ' H' (s.trans t) p
    | rt r h' => exact fun v ρ' H' t p => a v ρ' H' (s.trans t) (p.back s.back)
    | ex x e h' => exact fun cls d σ' ρ' H' t p => a cls d σ' ρ' H' (s.trans t) p
theorem AnsF.nx_imp {o : Option Fl} {Dn Dn' : Ends} (a : AnsF M W F ρ H o Dn) (h1 : ∀ σ H, Dn.nx σ H → Dn'.nx σ H) (h2 : ∀ v H, Dn.rt v H → Dn'.rt v H) : AnsF M W F ρ H o Dn' := by
  cases o with
  | none => exact a
  | some o => cases o with
    | nx e h' => exact fun v ρ' H' t p => h1 _ _ (a v ρ' H' t p)
    | rt r h' => exact fun v ρ' H' t p => h2 _ _ (a v ρ' H' t p)
    | ex x e h' => exact a
/-- from an expression's answer to what is wanted of a value -/
theorem AnsE.val {o : Option R} {Q : VK} (A : Ab0 M F ρ e h σ H) (a : AnsE M W F ρ H e σ (ofV o h) Q) : AnsV M F ρ H o Q := by
  cases o with
  | none => exact a
  | some r => cases r with
    | d d => exact fun v H' x r => a v ρ H' (x.step ρ) ⟨A.grow x, r⟩
    | tl xs => exact fun b vs H' x n q r => a _ ρ H' (x.step ρ) ⟨b, vs, rfl, n, A.notin n, q, A.shut x n q, r⟩
    | td xs => exact fun b vs H' x n q r => a _ ρ H' (x.step ρ) ⟨b, vs, rfl, n, A.notin n, q, A.shut x n q, r⟩
theorem AnsE.bool {b : Bool} {Q : VK} (A : Ab0 M F ρ e h σ H) (a : AnsE M W F ρ H e σ (some (.ok (.d (.bl b)) h)) Q) : Q (.bl b) H := a _ ρ H (Step.refl ρ H) ⟨A, .bl b⟩
/-- the first part of an expression -/
theorem thn1 {G : Ctx} {m : E} {k : D → Sto → Option Out} {Q R : VK} (A : Ab0 M F ρ e h σ H) (a : AnsE M W F ρ H e σ (thenE (evE G m e h) k) Q)
    (hk : ∀ d h1 v ρ1 H1, Step ρ H ρ1 H1 → Ab0 M F ρ1 e h1 σ H1 → Rp0 M F ρ1 H1 d v → AnsE M W F ρ1 H1 e σ (k d h1) Q → R v H1) : tE M W G m σ H R := by
  refine ⟨F, ρ, e, h, A, ?_⟩
  cases q : evE G m e h with
  | none => rw [q] at a; exact a
  | some o => cases o with
    | ok r h1 =>
      rw [q] at a
      intro v ρ1 H1 s p
      exact hk r.sh h1 v ρ1 H1 s p.sh.1 p.sh.2 (AnsE.later s a)
    | ex x h1 =>
      rw [q] at a
      exact a
theorem thnA {G : Ctx} {m : E} {k : List D → Sto → Option Out} {Q : VK} {R : List V → Hp → Prop} (A : Ab0 M F ρ e h σ H) (a : AnsE M W F ρ H e σ (thenA (evA G m e h) k) Q)
    (hk : ∀ d h1 v ρ1 H1, Step ρ H ρ1 H1 → Ab0 M F ρ1 e h1 σ H1 → Rps0 M F ρ1 H1 d v → AnsE M W F ρ1 H1 e σ (k d h1) Q → R v H1) : tA M W G m σ H R := by
  refine ⟨F, ρ, e, h, A, ?_⟩
  cases q : evA G m e h with
  | none => rw [q] at a; exact a
  | some o => cases o with
    | ok r h1 =>
      rw [q] at a
      intro v ρ1 H1 s A1 p
      exact hk r h1 v ρ1 H1 s A1 p (AnsE.later s a)
    | ex x h1 =>
      rw [q] at a
      exact a
end
end Tc

/-! Tc: the operations by values, each from HandS's rule. -/
namespace Tc
open PySem L2

/-- a two-place operation's reading -/
def rV (M : Mo) (f : Sto → D → D → Option R) : R2 := fun x y H Q => ∃ F ρ h a b, Ab0 M F ρ [] h [] H ∧ Rp0 M F ρ H a x ∧ Rp0 M F ρ H b y ∧ AnsV M F ρ H (f h a b) Q
def rV1 (M : Mo) (f : Sto → D → Option R) : List V → Hp → VK → Prop := fun xs H Q => ∃ F ρ h a x, xs = [x] ∧ Ab0 M F ρ [] h [] H ∧ Rp0 M F ρ H a x ∧ AnsV M F ρ H (f h a) Q
def rV2 (M : Mo) (f : D → D → Option R) : List V → Hp → VK → Prop := fun xs H Q => ∃ F ρ h a b x y, xs = [x, y] ∧ Ab0 M F ρ [] h [] H ∧ Rp0 M F ρ H a x ∧ Rp0 M F ρ H b y ∧ AnsV M F ρ H (f a b) Q
def opB : Bin → Operator
  | .add => .Add | .sub => .Sub | .mul => .Mult | .mod => .Mod | .fdiv => .FloorDiv | .pow => .Pow
def opC : Cmp → CmpOp
  | .eq => .Eq | .ne => .NotEq | .lt => .Lt | .le => .LtE | .gt => .Gt | .ge => .GtE | .is => .Is | .isnt => .IsNot | .mem => .In | .nmem => .NotIn

section
variable {M : Mo} {F : Addr → Prop} {ρ : List Addr} {H H' : Hp} {h : Sto}
theorem rp_non {X : Addr → Prop} {v : V} (r : Rp M ρ X H .non v) : v = .non := by cases r; rfl
theorem rp_bl {X : Addr → Prop} {b : Bool} {v : V} (r : Rp M ρ X H (.bl b) v) : v = .bl b := by cases r; rfl
theorem rp_int {X : Addr → Prop} {b : Int} {v : V} (r : Rp M ρ X H (.int b) v) : v = .int b := by cases r; rfl
theorem rp_str {X : Addr → Prop} {b : Str} {v : V} (r : Rp M ρ X H (.str b) v) : v = .str b ∧ PyData.strOk b = true := by cases r; exact ⟨rfl, by assumption⟩
theorem rp_tup {X : Addr → Prop} {xs : List D} {v : V} (r : Rp M ρ X H (.tup xs) v) : ∃ a vs, v = .ref a ∧ SqT M.K H a vs ∧ Rps M ρ X H xs vs := by cases r; exact ⟨_, _, rfl, by assumption, by assumption⟩
theorem rp_lst {X : Addr → Prop} {xs : List D} {v : V} (r : Rp M ρ X H (.lst xs) v) : ∃ a vs, v = .ref a ∧ H a = some (.lst vs) ∧ ¬ X a ∧ Rps M ρ X H xs vs := by cases r; exact ⟨_, _, rfl, by assumption, by assumption, by assumption⟩
theorem rp_fz {X : Addr → Prop} {xs : List D} {v : V} (r : Rp M ρ X H (.fz xs) v) : ∃ a vs, v = .ref a ∧ Fz M.K H a vs ∧ Rps M ρ X H xs vs := by cases r; exact ⟨_, _, rfl, by assumption, by assumption⟩
theorem rp_ref {X : Addr → Prop} {n : Nat} {v : V} (r : Rp M ρ X H (.ref n) v) : ∃ a, v = .ref a ∧ ρ[n]? = some a := by cases r; exact ⟨_, rfl, by assumption⟩
theorem rps_nil {X : Addr → Prop} {vs : List V} (r : Rps M ρ X H [] vs) : vs = [] := by cases r; rfl
theorem rps_cons {X : Addr → Prop} {d : D} {ds : List D} {vs : List V} (r : Rps M ρ X H (d :: ds) vs) : ∃ v us, vs = v :: us ∧ Rp M ρ X H d v ∧ Rps M ρ X H ds us := by cases r; exact ⟨_, _, rfl, by assumption, by assumption⟩
theorem Ab.at {X : Addr → Prop} {e : Env} {σ : St} {n : Nat} {a : Addr} {o : Ob} (A : Ab M ρ X e h σ H) (q : h[n]? = some o) (r : ρ[n]? = some a) : ∃ u, H a = some u ∧ RpO M ρ X H o u := by
  obtain ⟨b, u, q1, q2, q3⟩ := A.ob n o q
  rw [r] at q1
  cases q1
  exact ⟨u, q2, q3⟩
/-- a list, wherever it stands -/
theorem rp_items {e : Env} {σ : St} {d : D} {v : V} {xs : List D} (A : Ab0 M F ρ e h σ H) (r : Rp0 M F ρ H d v) (q : items h d = some xs) : ∃ a vs, v = .ref a ∧ SqL M.K H a vs ∧ Rps0 M F ρ H xs vs := by
  cases d <;> simp only [items] at q <;> first | cases q | skip
  · obtain ⟨a, vs, rfl, e1, _, e2⟩ := rp_lst r
    exact ⟨a, vs, rfl, .of e1, e2⟩
  · obtain ⟨a, vs, rfl, e1, e2⟩ := rp_fz r
    exact ⟨a, vs, rfl, e1.sql, e2⟩
  · obtain ⟨a, rfl, e1⟩ := rp_ref r
    split at q
    · rename_i ys hq
      cases q
      obtain ⟨u, e2, e3⟩ := A.at hq e1
      cases e3
      rename_i vs e4
      exact ⟨a, vs, rfl, .of e2, e4⟩
    · cases q
theorem rp_datS {e : Env} {σ : St} {d : D} {v : V} {p : PyData} (A : Ab0 M F ρ e h σ H) (r : Rp0 M F ρ H d v) (q : datS h d = some p) : Dp M.K H v p ∧ p.canLay0 = true := by
  by_cases hd : ∃ n, d = .ref n
  · obtain ⟨n, rfl⟩ := hd
    simp only [datS] at q
    split at q
    · rename_i xs hq
      simp only [Option.map_eq_some_iff] at q
      obtain ⟨ps, q, rfl⟩ := q
      obtain ⟨a, vs, rfl, e1, e2⟩ := rp_items (d := .ref n) (xs := xs) A r (by simp only [items, hq])
      have z := Rps.dp e2 q
      exact ⟨.lst e1 z.1, by simpa [PyData.canLay0] using z.2⟩
    · cases q
  · have q' : d.dat = some p := by
      cases d <;> first | exact q | exact absurd ⟨_, rfl⟩ hd
    exact r.dp q'
end

section
variable {X : Cx} {M : Mo} (hK : M.K = X.K)
include hK
theorem op_bin (o : Bin) : OpR X (binaryOp (opB o)) (rV M (binv o)) := by
  intro pins s σ H x y v u Q I rx ry q
  obtain ⟨F, ρ, h, a, b, A, ra, rb, ans⟩ := q
  cases o <;> cases a <;> cases b <;> first | exact ans.elim | skip
  -- add
  · rename_i i j
    cases rp_int ra; cases rp_int rb
    exact op_add pins s σ H _ _ v u Q I rx ry ⟨i, j, rfl, rfl, ans _ H (Ext.refl H) (.int _)⟩
  · rename_i i j
    obtain ⟨e1, o1⟩ := rp_str ra
    obtain ⟨e2, o2⟩ := rp_str rb
    subst e1; subst e2
    simp only [binv] at ans
    split at ans
    · rename_i hz
      exact op_add_str pins s σ H _ _ v u Q I rx ry ⟨i, j, rfl, rfl, hz, ans _ H (Ext.refl H) (.str _ (by
        have e : (i ++ j).cps = i.cps ++ j.cps := rfl
        unfold PyData.strOk at o1 o2 ⊢
        rw [e, Array.all_append, o1, o2]; rfl))⟩
    · exact ans.elim
  · rename_i xs ys
    obtain ⟨a1, vs, rfl, t1, r1⟩ := rp_tup ra
    obtain ⟨a2, us, rfl, t2, r2⟩ := rp_tup rb
    simp only [binv] at ans
    split at ans
    · rename_i hz
      rw [hK] at t1 t2
      refine op_catA pins s σ H _ _ v u Q I rx ry ⟨a1, a2, vs, us, rfl, rfl, t1, t2, by rw [← r1.length, ← r2.length]; exact hz, fun e => ?_, fun _ e => ?_, fun n1 n2 p hp => ?_⟩
      · subst e
        have e := List.eq_nil_of_length_eq_zero (r1.length.trans rfl)
        subst e
        refine ans _ H (Ext.refl H) ?_
        rw [List.nil_append]
        exact .tup (by rw [hK]; exact t2) r2
      · subst e
        have e := List.eq_nil_of_length_eq_zero (r2.length.trans rfl)
        subst e
        refine ans _ H (Ext.refl H) ?_
        rw [List.append_nil]
        exact .tup (by rw [hK]; exact t1) r1
      · exact ans _ _ (Ext.upd hp) (.tup (.of upd_same) ((r1.append r2).keep ((Ext.upd hp).kp _ _)))
    · exact ans.elim
  · rename_i xs ys
    obtain ⟨a1, vs, rfl, t1, _, r1⟩ := rp_lst ra
    obtain ⟨a2, us, rfl, t2, _, r2⟩ := rp_lst rb
    simp only [binv] at ans
    split at ans
    · rename_i hz
      exact op_cat pins s σ H _ _ v u Q I rx ry ⟨a1, a2, vs, us, rfl, rfl, t1, t2, by rw [← r1.length, ← r2.length]; exact hz, fun p hp => ans p _ _ (Ext.upd hp) hp upd_same ((r1.append r2).keep ((Ext.upd hp).kpx hp _ _))⟩
    · exact ans.elim
  -- sub
  · rename_i i j
    cases rp_int ra; cases rp_int rb
    exact op_sub pins s σ H _ _ v u Q I rx ry ⟨i, j, rfl, rfl, ans _ H (Ext.refl H) (.int _)⟩
  -- mul
  · rename_i i j
    cases rp_int ra; cases rp_int rb
    simp only [binv] at ans
    split at ans
    · rename_i hz
      rcases hz with hz | hz | hz
      · exact op_mul pins s σ H _ _ v u Q I rx ry ⟨i, j, rfl, rfl, .inl hz, ans _ H (Ext.refl H) (.int _)⟩
      · exact op_mul pins s σ H _ _ v u Q I rx ry ⟨i, j, rfl, rfl, .inr hz, ans _ H (Ext.refl H) (.int _)⟩
      · exact op_mulW pins s σ H _ _ v u Q I rx ry ⟨i, j, rfl, rfl, hz, ans _ H (Ext.refl H) (.int _)⟩
    · exact ans.elim
  · rename_i xs j
    obtain ⟨a1, vs, rfl, t1, _, r1⟩ := rp_lst ra
    cases rp_int rb
    simp only [binv] at ans
    split at ans
    · rename_i hz
      exact op_rep pins s σ H _ _ v u Q I rx ry ⟨a1, j, vs, rfl, rfl, t1, hz.2.1, hz.2.2, by rw [← r1.length]; exact hz.1, fun p hp => ans p _ _ (Ext.upd hp) hp upd_same ((r1.rep _).keep ((Ext.upd hp).kpx hp _ _))⟩
    · exact ans.elim
  -- mod
  · rename_i i j
    cases rp_int ra; cases rp_int rb
    simp only [binv] at ans
    split at ans
    · rename_i hz
      exact op_modN pins s σ H _ _ v u Q I rx ry ⟨i, j, rfl, rfl, hz, ans _ H (Ext.refl H) (.int _)⟩
    · exact ans.elim
  -- fdiv
  · rename_i i j
    cases rp_int ra; cases rp_int rb
    simp only [binv] at ans
    split at ans
    · rename_i hz
      have rule : OpR X (binaryOp .FloorDiv) (rI (fun _ j => j ≠ 0 ∧ j.natAbs.log2 < 9000) fun i j => .int (i.fdiv j)) := opI fun _ _ _ _ _ _ _ hc q => PyProof.Rows.floordiv_int hc.1 q (.inl (PyProof.noPylong_of_log2 hc.2))
      exact rule pins s σ H _ _ v u Q I rx ry ⟨i, j, rfl, rfl, hz, ans _ H (Ext.refl H) (.int _)⟩
    · exact ans.elim
  -- pow
  · rename_i i j
    cases rp_int ra; cases rp_int rb
    simp only [binv] at ans
    split at ans
    · rename_i hz
      exact op_pow pins s σ H _ _ v u Q I rx ry ⟨i, j, rfl, rfl, hz, ans _ H (Ext.refl H) (.int _)⟩
    · exact ans.elim

/-! ### comparisons -/
def rC (M : Mo) (f : Sto → D → D → Option Bool) : R2 := fun x y H Q => ∃ F ρ h a b c, Ab0 M F ρ [] h [] H ∧ Rp0 M F ρ H a x ∧ Rp0 M F ρ H b y ∧ f h a b = some c ∧ Q (.bl c) H
theorem eqv_cases {h : Sto} {a b : D} {c : Bool} (q : eqvS h a b = some c) : (∃ xs, items h a = some xs ∧ items h b = some [] ∧ c = xs.isEmpty) ∨
    ∃ p r, datS h a = some p ∧ datS h b = some r ∧ (p.depth ≤ 64 ∨ r.depth ≤ 64) ∧ c = PyData.eqv p r := by
  unfold eqvS at q
  split at q
  · rename_i xs h1 h2
    exact .inl ⟨xs, h1, h2, (Option.some.inj q).symm⟩
  · split at q
    · rename_i p r h1 h2
      split at q
      · rename_i hd
        exact .inr ⟨p, r, h1, h2, hd, (Option.some.inj q).symm⟩
      · cases q
    · cases q
theorem list_of {pins : List (Addr × Obj)} {σ : St} {H : Hp} {s : Shared} {a : Addr} {vs : List V} (I : Inv X pins σ H s) (h : SqL X.K H a vs) : ∃ its : Array Value, s.heap.IsList a its ∧ its.size = vs.length := by
  obtain ⟨its, r, p, _⟩ := I.list h
  exact ⟨its.toArray, p.isList, by rw [List.size_toArray]; exact r.length.symm⟩
theorem op_eqV (hu : X.A.units + 64 < cLine) : OpR X (compareOp .Eq) (rC M eqvS) := by
  intro pins s σ H x y v u Q I rx ry q
  obtain ⟨F, ρ, h, a, b, c, A, ra, rb, e, q⟩ := q
  rcases eqv_cases hK e with ⟨xs, e1, e2, rfl⟩ | ⟨p, r, e1, e2, e3, rfl⟩
  · obtain ⟨l1, vs, rfl, s1, r1⟩ := rp_items A ra e1
    obtain ⟨l2, us, rfl, s2, r2⟩ := rp_items A rb e2
    cases rps_nil r2
    rw [hK] at s1 s2
    obtain ⟨i1, p1, z1⟩ := list_of hK I s1
    obtain ⟨i2, p2, z2⟩ := list_of hK I s2
    cases rx; cases ry
    cases xs with
    | nil =>
      cases rps_nil r1
      have z := PySem.SeqAt.RcAt.lists (A := X.A) (e := fun _ => true) p1 p2 (z1.trans z2.symm) (by omega) (fun j h1 _ => absurd h1 (by rw [z1]; exact Nat.not_lt_zero _))
      have z' : (List.range i1.size).all (fun _ => true) = true := by simp
      rw [z'] at z
      exact z X.prog X.w X.xe _ ⟨.bl true, H, I, rfl, q⟩
    | cons d ds =>
      have z := PySem.SeqAt.RcAt.lists_lengths (A := X.A) p1 p2 (by
        have := r1.length
        simp only [List.length_cons] at this
        simp only [List.length_nil] at z2
        simp; omega) (by omega)
      exact z X.prog X.w X.xe _ ⟨.bl false, H, I, rfl, q⟩
  · obtain ⟨d1, c1⟩ := rp_datS A ra e1
    obtain ⟨d2, c2⟩ := rp_datS A rb e2
    rw [hK] at d1 d2
    obtain ⟨as, r1⟩ := Dp.reads I p x v d1 rx
    obtain ⟨bs, r2⟩ := Dp.reads I r y u d2 ry
    exact PySem.SeqAt.compareEq_reads r1 r2 c1 c2 (by rcases e3 with e3 | e3 <;> omega) ⟨.bl _, H, I, rfl, q⟩
theorem op_neV (hu : X.A.units + 64 < cLine) : OpR X (compareOp .NotEq) (rC M fun h x y => (eqvS h x y).map (!·)) := by
  intro pins s σ H x y v u Q I rx ry q
  obtain ⟨F, ρ, h, a, b, c, A, ra, rb, e, q⟩ := q
  simp only [Option.map_eq_some_iff] at e
  obtain ⟨c, e, rfl⟩ := e
  rcases eqv_cases hK e with ⟨xs, e1, e2, rfl⟩ | ⟨p, r, e1, e2, e3, rfl⟩
  · obtain ⟨l1, vs, rfl, s1, r1⟩ := rp_items A ra e1
    obtain ⟨l2, us, rfl, s2, r2⟩ := rp_items A rb e2
    cases rps_nil r2
    rw [hK] at s1 s2
    obtain ⟨i1, p1, z1⟩ := list_of hK I s1
    obtain ⟨i2, p2, z2⟩ := list_of hK I s2
    cases rx; cases ry
    cases xs with
    | nil =>
      cases rps_nil r1
      have z := PySem.SeqAt.RcNeAt.lists (A := X.A) (e := fun _ => true) p1 p2 (z1.trans z2.symm) (by omega) (fun j h1 _ => absurd h1 (by rw [z1]; exact Nat.not_lt_zero _))
      have z' : (!(List.range i1.size).all (fun _ => true)) = false := by simp
      rw [z'] at z
      exact z X.prog X.w X.xe _ ⟨.bl false, H, I, rfl, q⟩
    | cons d ds =>
      have z := PySem.SeqAt.RcNeAt.lists_lengths (A := X.A) p1 p2 (by
        have := r1.length
        simp only [List.length_cons] at this
        simp only [List.length_nil] at z2
        simp; omega) (by omega)
      exact z X.prog X.w X.xe _ ⟨.bl true, H, I, rfl, q⟩
  · obtain ⟨d1, c1⟩ := rp_datS A ra e1
    obtain ⟨d2, c2⟩ := rp_datS A rb e2
    rw [hK] at d1 d2
    obtain ⟨as, r1⟩ := Dp.reads I p x v d1 rx
    obtain ⟨bs, r2⟩ := Dp.reads I r y u d2 ry
    exact PySem.SeqAt.compareNe_reads r1 r2 c1 c2 (by rcases e3 with e3 | e3 <;> omega) ⟨.bl _, H, I, rfl, q⟩
end
end Tc

namespace Tc
open PySem L2
section
variable {X : Cx} {M : Mo} (hK : M.K = X.K)
theorem flat_V {ρ : List Addr} {S : Addr → Prop} {H : Hp} {d : D} {v : V} (r : Rp M ρ S H d v) (f : d.flat = true) : v = d.toV ∧ flatV v = true := by
  cases r <;> first | exact ⟨rfl, rfl⟩ | cases f
theorem flat_Vs {ρ : List Addr} {S : Addr → Prop} {H : Hp} : ∀ {ds : List D} {vs : List V}, Rps M ρ S H ds vs → ds.all D.flat = true → vs = ds.map D.toV ∧ vs.all flatV = true
  | _, _, .nil, _ => ⟨rfl, rfl⟩
  | _, _, .cons h r, f => by
    simp only [List.all_cons, Bool.and_eq_true] at f
    obtain ⟨e1, f1⟩ := flat_V h f.1
    obtain ⟨e2, f2⟩ := flat_Vs r f.2
    subst e1; subst e2
    exact ⟨rfl, by simp [f1, f2]⟩
theorem mem_cases {h : Sto} {a b : D} {c : Bool} (q : memv h a b = some c) : (∃ x y, a = .str x ∧ b = .str y ∧ x.cps.size = 1 ∧ c = decide (x.cps.getD 0 0 ∈ y.cps.toList)) ∨
    (∃ ys, b = .tup ys ∧ a.flat = true ∧ ys.all D.flat = true ∧ c = inV a.toV (ys.map D.toV)) ∨
    ∃ d xs ds, a.dat = some d ∧ items h b = some xs ∧ dats xs = some ds ∧ d.depth ≤ 64 ∧ (PyData.list ds).depth ≤ 64 ∧ c = ds.any fun z => PyData.eqv z d := by
  unfold memv at q
  split at q
  · split at q
    · rename_i hz
      exact .inl ⟨_, _, rfl, rfl, hz, (Option.some.inj q).symm⟩
    · cases q
  · split at q
    · rename_i hz
      exact .inr (.inl ⟨_, rfl, hz.1, hz.2, (Option.some.inj q).symm⟩)
    · cases q
  · split at q
    · rename_i d ds h1 h2
      split at q
      · rename_i hz
        simp only [Option.bind_eq_some_iff] at h2
        obtain ⟨xs, h2, h3⟩ := h2
        exact .inr (.inr ⟨d, xs, ds, h1, h2, h3, hz.1, hz.2, (Option.some.inj q).symm⟩)
      · cases q
    · cases q
theorem one_sign {x : Str} (h : x.cps.size = 1) : x = ⟨#[x.cps.getD 0 0]⟩ := by
  obtain ⟨⟨l⟩⟩ := x
  cases l with
  | nil => cases h
  | cons c r =>
    cases r with
    | nil => rfl
    | cons _ _ => simp at h
include hK
theorem sq_of_items {F : Addr → Prop} {ρ : List Addr} {H : Hp} {h : Sto} {d : D} {v : V} {xs : List D} (A : Ab0 M F ρ [] h [] H) (r : Rp0 M F ρ H d v) (q : items h d = some xs) : ∃ a vs, v = .ref a ∧ SqL X.K H a vs ∧ Rps0 M F ρ H xs vs := by
  obtain ⟨a, vs, e1, e2, e3⟩ := rp_items A r q
  rw [hK] at e2
  exact ⟨a, vs, e1, e2, e3⟩
theorem sqt_of {ρ : List Addr} {S : Addr → Prop} {H : Hp} {v : V} {xs : List D} (r : Rp M ρ S H (.tup xs) v) : ∃ a vs, v = .ref a ∧ SqT X.K H a vs ∧ Rps M ρ S H xs vs := by
  obtain ⟨a, vs, e1, e2, e3⟩ := rp_tup r
  rw [hK] at e2
  exact ⟨a, vs, e1, e2, e3⟩
theorem op_memV (hu : X.A.units + 65 < cLine) : OpR X (compareOp .In) (rC M memv) := by
  intro pins s σ H x y v u Q I rx ry q
  obtain ⟨F, ρ, h, a, b, c, A, ra, rb, e, q⟩ := q
  rcases mem_cases e with ⟨x1, y1, rfl, rfl, hz, rfl⟩ | ⟨ys, rfl, f1, f2, rfl⟩ | ⟨d, xs, ds, e1, e2, e3, d1, d2, rfl⟩
  · cases (rp_str ra).1; cases (rp_str rb).1
    exact op_in_sign pins s σ H _ _ v u Q I rx ry ⟨x1.cps.getD 0 0, y1, by rw [← one_sign hz], rfl, q⟩
  · obtain ⟨p, vs, rfl, t1, r1⟩ := sqt_of hK rb
    obtain ⟨e1, g1⟩ := flat_V ra f1
    obtain ⟨e2, g2⟩ := flat_Vs r1 f2
    refine op_in_seq pins s σ H _ _ v u Q I rx ry ⟨p, vs, rfl, .inr t1, g1, g2, ?_⟩
    rw [e1, e2]
    exact q
  · obtain ⟨p, vs, rfl, t1, r1⟩ := sq_of_items hK A rb e2
    obtain ⟨k1, c1⟩ := ra.dp e1
    obtain ⟨k2, c2⟩ := Rps.dp r1 e3
    rw [hK] at k1 k2
    refine op_inD hu pins s σ H _ _ v u Q I rx ry ⟨d, ds, k1, .lst t1 k2, ?_, ?_, q⟩
    · unfold SeqAt.shaped; rw [c1, decide_eq_true d1]; rfl
    · unfold SeqAt.shaped
      rw [decide_eq_true d2, show PyData.canLay0 (.list ds) = true by simpa [PyData.canLay0] using c2]; rfl
theorem op_nmemV (hu : X.A.units + 65 < cLine) : OpR X (compareOp .NotIn) (rC M fun h x y => (memv h x y).map (!·)) := by
  intro pins s σ H x y v u Q I rx ry q
  obtain ⟨F, ρ, h, a, b, c, A, ra, rb, e, q⟩ := q
  simp only [Option.map_eq_some_iff] at e
  obtain ⟨c, e, rfl⟩ := e
  rcases mem_cases e with ⟨x1, y1, rfl, rfl, hz, rfl⟩ | ⟨ys, rfl, f1, f2, rfl⟩ | ⟨d, xs, ds, e1, e2, e3, d1, d2, rfl⟩
  · cases (rp_str ra).1; cases (rp_str rb).1
    exact op_notIn_sign pins s σ H _ _ v u Q I rx ry ⟨x1.cps.getD 0 0, y1, by rw [← one_sign hz], rfl, q⟩
  · obtain ⟨p, vs, rfl, t1, r1⟩ := sqt_of hK rb
    obtain ⟨e1, g1⟩ := flat_V ra f1
    obtain ⟨e2, g2⟩ := flat_Vs r1 f2
    refine op_notIn_seq pins s σ H _ _ v u Q I rx ry ⟨p, vs, rfl, .inr t1, g1, g2, ?_⟩
    rw [e1, e2]
    exact q
  · obtain ⟨p, vs, rfl, t1, r1⟩ := sq_of_items hK A rb e2
    obtain ⟨k1, c1⟩ := ra.dp e1
    obtain ⟨k2, c2⟩ := Rps.dp r1 e3
    rw [hK] at k1 k2
    refine op_notInD hu pins s σ H _ _ v u Q I rx ry ⟨d, ds, k1, .lst t1 k2, ?_, ?_, q⟩
    · unfold SeqAt.shaped; rw [c1, decide_eq_true d1]; rfl
    · unfold SeqAt.shaped
      rw [decide_eq_true d2, show PyData.canLay0 (.list ds) = true by simpa [PyData.canLay0] using c2]; rfl
theorem op_cmpV (hu : X.A.units + 65 < cLine) (o : Cmp) : OpR X (compareOp (opC o)) (rC M (cmpv o)) := by
  cases o with
  | eq => exact op_eqV hK (by omega)
  | ne => exact op_neV hK (by omega)
  | mem => exact op_memV hK hu
  | nmem => exact op_nmemV hK hu
  | lt =>
    intro pins s σ H x y v u Q I rx ry q
    obtain ⟨F, ρ, h, a, b, c, A, ra, rb, e, q⟩ := q
    cases a <;> cases b <;> simp only [cmpv] at e <;> first | cases e | skip
    cases rp_int ra; cases rp_int rb
    exact op_lt pins s σ H _ _ v u Q I rx ry ⟨_, _, rfl, rfl, q⟩
  | le =>
    intro pins s σ H x y v u Q I rx ry q
    obtain ⟨F, ρ, h, a, b, c, A, ra, rb, e, q⟩ := q
    cases a <;> cases b <;> simp only [cmpv] at e <;> first | cases e | skip
    cases rp_int ra; cases rp_int rb
    exact op_le pins s σ H _ _ v u Q I rx ry ⟨_, _, rfl, rfl, q⟩
  | gt =>
    intro pins s σ H x y v u Q I rx ry q
    obtain ⟨F, ρ, h, a, b, c, A, ra, rb, e, q⟩ := q
    cases a <;> cases b <;> simp only [cmpv] at e <;> first | cases e | skip
    cases rp_int ra; cases rp_int rb
    exact op_gt pins s σ H _ _ v u Q I rx ry ⟨_, _, rfl, rfl, q⟩
  | ge =>
    intro pins s σ H x y v u Q I rx ry q
    obtain ⟨F, ρ, h, a, b, c, A, ra, rb, e, q⟩ := q
    cases a <;> cases b <;> simp only [cmpv] at e <;> first | cases e | skip
    cases rp_int ra; cases rp_int rb
    exact op_ge pins s σ H _ _ v u Q I rx ry ⟨_, _, rfl, rfl, q⟩
  | is =>
    intro pins s σ H x y v u Q I rx ry q
    obtain ⟨F, ρ, h, a, b, c, A, ra, rb, e, q⟩ := q
    have nn : b = .non → ∀ w, Rp0 M F ρ H a w → c = decide (w = .non) := by
      intro hb w rw'
      subst hb
      cases a <;> simp only [cmpv, Option.some.injEq] at e <;> (subst e; cases rw' <;> simp)
    by_cases hb : b = .non
    · have ec := nn hb x ra
      subst hb
      cases rp_non rb
      subst ec
      exact op_isN pins s σ H _ _ v u Q I rx ry ⟨rfl, q⟩
    · cases a <;> cases b <;> simp only [cmpv] at e <;> first | exact absurd rfl hb | cases e | skip
      cases rp_bl ra; cases rp_bl rb
      exact op_is_bl pins s σ H _ _ v u Q I rx ry ⟨_, _, rfl, rfl, q⟩
  | isnt =>
    intro pins s σ H x y v u Q I rx ry q
    obtain ⟨F, ρ, h, a, b, c, A, ra, rb, e, q⟩ := q
    have nn : b = .non → ∀ w, Rp0 M F ρ H a w → c = !decide (w = .non) := by
      intro hb w rw'
      subst hb
      cases a <;> simp only [cmpv, Option.some.injEq] at e <;> (subst e; cases rw' <;> simp)
    by_cases hb : b = .non
    · have ec := nn hb x ra
      subst hb
      cases rp_non rb
      subst ec
      exact op_notN pins s σ H _ _ v u Q I rx ry ⟨rfl, q⟩
    · cases a <;> cases b <;> simp only [cmpv] at e <;> first | exact absurd rfl hb | cases e | skip
      cases rp_bl ra; cases rp_bl rb
      exact op_isnot_bl pins s σ H _ _ v u Q I rx ry ⟨_, _, rfl, rfl, q⟩

/-! ### built-ins of one value -/
theorem call_lenV : CallR X (.builtin "len") (rV1 M (b1v .len)) := by
  intro pins s σ H xs us Q I r q
  obtain ⟨F, ρ, h, a, x, rfl, A, ra, ans⟩ := q
  by_cases hs : ∃ z, a = .str z
  · obtain ⟨z, rfl⟩ := hs
    cases (rp_str ra).1
    simp only [b1v] at ans
    split at ans
    · rename_i hz
      exact call_len_str pins s σ H _ us Q I r ⟨z, rfl, hz, ans _ H (Ext.refl H) (.int _)⟩
    · exact ans.elim
  by_cases ht : ∃ z, a = .tup z
  · obtain ⟨z, rfl⟩ := ht
    obtain ⟨p, vs, rfl, t1, r1⟩ := sqt_of hK ra
    refine call_len_seq pins s σ H _ us Q I r ⟨p, vs, rfl, .inr t1, ?_⟩
    rw [← r1.length]
    exact ans _ H (Ext.refl H) (.int _)
  · have e : b1v .len h a = (items h a).map fun xs => .d (.int xs.length) := by
      cases a <;> first | rfl | exact absurd ⟨_, rfl⟩ hs | exact absurd ⟨_, rfl⟩ ht
    rw [e] at ans
    cases q : items h a with
    | none => rw [q] at ans; exact ans.elim
    | some xs =>
      rw [q] at ans
      obtain ⟨p, vs, rfl, t1, r1⟩ := sq_of_items hK A ra q
      refine call_len_seq pins s σ H _ us Q I r ⟨p, vs, rfl, .inl t1, ?_⟩
      rw [← r1.length]
      exact ans _ H (Ext.refl H) (.int _)
theorem call_absV : CallR X (.builtin "abs") (rV1 M (b1v .abs)) := by
  intro pins s σ H xs us Q I r q
  obtain ⟨F, ρ, h, a, x, rfl, A, ra, ans⟩ := q
  cases a <;> first | exact ans.elim | skip
  rename_i i
  cases rp_int ra
  exact call_abs pins s σ H _ us Q I r ⟨i, rfl, ans _ H (Ext.refl H) (.int _)⟩
theorem call_intV : CallR X (.type "int") (rV1 M (b1v .int)) := by
  intro pins s σ H xs us Q I r q
  obtain ⟨F, ρ, h, a, x, rfl, A, ra, ans⟩ := q
  cases a <;> first | exact ans.elim | skip
  · rename_i i
    cases rp_bl ra
    exact call_int1 pins s σ H _ us Q I r (.inr ⟨i, rfl, ans _ H (Ext.refl H) (.int _)⟩)
  · rename_i i
    cases rp_int ra
    exact call_int1 pins s σ H _ us Q I r (.inl ⟨i, rfl, ans _ H (Ext.refl H) (.int _)⟩)
theorem call_tupleV : CallR X (.type "tuple") (rV1 M (b1v .tuple)) := by
  intro pins s σ H xs us Q I r q
  obtain ⟨F, ρ, h, a, x, rfl, A, ra, ans⟩ := q
  by_cases ht : ∃ z, a = .tup z
  · obtain ⟨z, rfl⟩ := ht
    obtain ⟨p, vs, rfl, t1, r1⟩ := sqt_of hK ra
    exact call_tuple_of pins s σ H _ us Q I r ⟨p, vs, rfl, .inr ⟨t1, ans _ H (Ext.refl H) ra⟩⟩
  · have e : b1v .tuple h a = (items h a).map fun xs => .d (.tup xs) := by
      cases a <;> first | rfl | exact absurd ⟨_, rfl⟩ ht
    rw [e] at ans
    cases q : items h a with
    | none => rw [q] at ans; exact ans.elim
    | some xs =>
      rw [q] at ans
      obtain ⟨p, vs, rfl, t1, r1⟩ := sq_of_items hK A ra q
      exact call_tuple_of pins s σ H _ us Q I r ⟨p, vs, rfl, .inl ⟨t1, fun l hl => ans _ _ (Ext.upd hl) (.tup (.of upd_same) (r1.keep ((Ext.upd hl).kp _ _)))⟩⟩
theorem call_listV : CallR X (.type "list") (rV1 M (b1v .list)) := by
  intro pins s σ H xs us Q I r q
  obtain ⟨F, ρ, h, a, x, rfl, A, ra, ans⟩ := q
  by_cases ht : ∃ z, a = .tup z
  · obtain ⟨z, rfl⟩ := ht
    obtain ⟨p, vs, rfl, t1, r1⟩ := sqt_of hK ra
    exact call_list_of pins s σ H _ us Q I r ⟨p, vs, rfl, .inr t1, fun l hl => ans l _ _ (Ext.upd hl) hl upd_same (r1.keep ((Ext.upd hl).kpx hl _ _))⟩
  · have e : b1v .list h a = (items h a).map fun xs => .tl xs := by
      cases a <;> first | rfl | exact absurd ⟨_, rfl⟩ ht
    rw [e] at ans
    cases q : items h a with
    | none => rw [q] at ans; exact ans.elim
    | some xs =>
      rw [q] at ans
      obtain ⟨p, vs, rfl, t1, r1⟩ := sq_of_items hK A ra q
      exact call_list_of pins s σ H _ us Q I r ⟨p, vs, rfl, .inl t1, fun l hl => ans l _ _ (Ext.upd hl) hl upd_same (r1.keep ((Ext.upd hl).kpx hl _ _))⟩
omit hK in
theorem bools_of {ρ : List Addr} {S : Addr → Prop} {H : Hp} : ∀ {ds : List D} {bs : List Bool} {vs : List V}, bools ds = some bs → Rps M ρ S H ds vs → vs = bs.map V.bl
  | [], _, _, e, r => by
    simp only [bools, Option.some.injEq] at e
    subst e
    exact rps_nil r
  | .bl b :: ds, _, _, e, r => by
    simp only [bools, Option.map_eq_some_iff] at e
    obtain ⟨bs, e, rfl⟩ := e
    obtain ⟨v, us, rfl, h1, h2⟩ := rps_cons r
    cases rp_bl h1
    rw [bools_of e h2]
    rfl
  | .non :: _, _, _, e, _ => by simp [bools] at e
  | .int _ :: _, _, _, e, _ => by simp [bools] at e
  | .str _ :: _, _, _, e, _ => by simp [bools] at e
  | .tup _ :: _, _, _, e, _ => by simp [bools] at e
  | .lst _ :: _, _, _, e, _ => by simp [bools] at e
  | .fz _ :: _, _, _, e, _ => by simp [bools] at e
  | .dct _ :: _, _, _, e, _ => by simp [bools] at e
  | .exn _ _ :: _, _, _, e, _ => by simp [bools] at e
  | .ref _ :: _, _, _, e, _ => by simp [bools] at e
omit hK in
theorem intsD_of {ρ : List Addr} {S : Addr → Prop} {H : Hp} : ∀ {ds : List D} {bs : List Int} {vs : List V}, intsD ds = some bs → Rps M ρ S H ds vs → vs = bs.map V.int
  | [], _, _, e, r => by
    simp only [intsD, Option.some.injEq] at e
    subst e
    exact rps_nil r
  | .int b :: ds, _, _, e, r => by
    simp only [intsD, Option.map_eq_some_iff] at e
    obtain ⟨bs, e, rfl⟩ := e
    obtain ⟨v, us, rfl, h1, h2⟩ := rps_cons r
    cases rp_int h1
    rw [intsD_of e h2]
    rfl
  | .non :: _, _, _, e, _ => by simp [intsD] at e
  | .bl _ :: _, _, _, e, _ => by simp [intsD] at e
  | .str _ :: _, _, _, e, _ => by simp [intsD] at e
  | .tup _ :: _, _, _, e, _ => by simp [intsD] at e
  | .lst _ :: _, _, _, e, _ => by simp [intsD] at e
  | .fz _ :: _, _, _, e, _ => by simp [intsD] at e
  | .dct _ :: _, _, _, e, _ => by simp [intsD] at e
  | .exn _ _ :: _, _, _, e, _ => by simp [intsD] at e
  | .ref _ :: _, _, _, e, _ => by simp [intsD] at e
theorem call_allV (hc : X.calm = true) : CallR X (.builtin "all") (rV1 M (b1v .all)) := by
  intro pins s σ H xs us Q I r q
  obtain ⟨F, ρ, h, a, x, rfl, A, ra, ans⟩ := q
  have e : b1v .all h a = ((items h a).bind bools).map fun bs => .d (.bl (bs.all id)) := by cases a <;> rfl
  rw [e] at ans
  cases q : items h a with
  | none => rw [q] at ans; exact ans.elim
  | some xs =>
    rw [q] at ans
    cases q2 : bools xs with
    | none => simp only [Option.bind, q2] at ans; exact ans.elim
    | some bs =>
      simp only [Option.bind, q2, Option.map] at ans
      obtain ⟨p, vs, rfl, t1, r1⟩ := sq_of_items hK A ra q
      have ev := bools_of q2 r1
      subst ev
      exact cr_all hc pins s σ H _ us Q I r ⟨p, bs, rfl, t1, ans _ H (Ext.refl H) (.bl _)⟩
theorem call_sumV (hc : X.calm = true) : CallR X (.builtin "sum") (rV1 M (b1v .sum)) := by
  intro pins s σ H xs us Q I r q
  obtain ⟨F, ρ, h, a, x, rfl, A, ra, ans⟩ := q
  have e : b1v .sum h a = ((items h a).bind intsD).map fun bs => .d (.int bs.sum) := by cases a <;> rfl
  rw [e] at ans
  cases q : items h a with
  | none => rw [q] at ans; exact ans.elim
  | some xs =>
    rw [q] at ans
    cases q2 : intsD xs with
    | none => simp only [Option.bind, q2] at ans; exact ans.elim
    | some bs =>
      simp only [Option.bind, q2, Option.map] at ans
      obtain ⟨p, vs, rfl, t1, r1⟩ := sq_of_items hK A ra q
      have ev := intsD_of q2 r1
      subst ev
      exact cr_sum hc pins s σ H _ us Q I r ⟨p, bs, rfl, t1, ans _ H (Ext.refl H) (.int _)⟩
theorem call_min2V (hc : X.calm = true) : CallR X (.builtin "min") (rV2 M (b2v .min)) := by
  intro pins s σ H xs us Q I r q
  obtain ⟨F, ρ, h, a, b, x, y, rfl, A, ra, rb, ans⟩ := q
  cases a <;> cases b <;> first | exact ans.elim | skip
  cases rp_int ra; cases rp_int rb
  exact call_min2 hc pins s σ H _ us Q I r ⟨_, _, rfl, ans _ H (Ext.refl H) (.int _)⟩
theorem call_max2V (hc : X.calm = true) : CallR X (.builtin "max") (rV2 M (b2v .max)) := by
  intro pins s σ H xs us Q I r q
  obtain ⟨F, ρ, h, a, b, x, y, rfl, A, ra, rb, ans⟩ := q
  cases a <;> cases b <;> first | exact ans.elim | skip
  cases rp_int ra; cases rp_int rb
  exact call_max2 hc pins s σ H _ us Q I r ⟨_, _, rfl, ans _ H (Ext.refl H) (.int _)⟩
/-! ### places and slices -/
omit hK in
theorem atI_get {ρ : List Addr} {S : Addr → Prop} {H : Hp} {ds : List D} {vs : List V} {i : Int} {d : D} (r : Rps M ρ S H ds vs) (e : atI ds i = some d) : ∃ v, atI vs i = some v ∧ Rp M ρ S H d v := by
  unfold atI at e ⊢
  simp only [Option.bind_eq_some_iff] at e
  obtain ⟨j, e1, e2⟩ := e
  obtain ⟨v, e3, e4⟩ := r.get e2
  rw [r.length] at e1
  exact ⟨v, by rw [e1]; exact e3, e4⟩
theorem ix_V : IxR X (rV M ixv) := by
  intro value slice pins s σ H x y v u Q I rx ry q hs
  obtain ⟨F, ρ, h, a, b, A, ra, rb, ans⟩ := q
  cases b <;> first | (cases a <;> exact ans.elim) | skip
  rename_i i
  cases rp_int rb
  by_cases ht : ∃ z, a = .tup z
  · obtain ⟨z, rfl⟩ := ht
    obtain ⟨p, vs, rfl, t1, r1⟩ := sqt_of hK ra
    simp only [ixv] at ans
    cases q : atI z i with
    | none => rw [q] at ans; exact ans.elim
    | some d =>
      rw [q] at ans
      obtain ⟨w, e1, e2⟩ := atI_get r1 q
      exact ix_tup value slice pins s σ H _ _ v u Q I rx ry ⟨p, vs, i, w, rfl, rfl, t1, e1, ans _ H (Ext.refl H) e2⟩ hs
  by_cases hz : ∃ z, a = .str z
  · obtain ⟨z, rfl⟩ := hz
    obtain ⟨e0, ok⟩ := rp_str ra
    cases e0
    simp only [ixv] at ans
    split at ans
    · rename_i hl
      cases q : atI z.cps.toList i with
      | none => rw [q] at ans; exact ans.elim
      | some c =>
        rw [q] at ans
        refine ix_str value slice pins s σ H _ _ v u Q I rx ry ⟨z, i, c, rfl, rfl, hl, q, ans _ H (Ext.refl H) (.str _ ?_)⟩ hs
        unfold atI at q
        simp only [Option.bind_eq_some_iff] at q
        obtain ⟨j, _, q2⟩ := q
        have hm := List.mem_of_getElem? q2
        unfold PyData.strOk at ok ⊢
        rw [Array.all_eq_true_iff_forall_mem] at ok
        simpa using ok c (by simpa using hm)
    · exact ans.elim
  · have e : ixv h a (.int i) = (items h a).bind fun xs => (atI xs i).map .d := by
      cases a <;> first | rfl | exact absurd ⟨_, rfl⟩ ht | exact absurd ⟨_, rfl⟩ hz
    rw [e] at ans
    cases q : items h a with
    | none => rw [q] at ans; exact ans.elim
    | some xs =>
      rw [q] at ans
      obtain ⟨p, vs, rfl, t1, r1⟩ := sq_of_items hK A ra q
      simp only [Option.bind] at ans
      cases q : atI xs i with
      | none => rw [q] at ans; exact ans.elim
      | some d =>
        rw [q] at ans
        obtain ⟨w, e1, e2⟩ := atI_get r1 q
        exact ix_list value slice pins s σ H _ _ v u Q I rx ry ⟨p, vs, i, w, rfl, rfl, t1, e1, ans _ H (Ext.refl H) e2⟩ hs
omit hK in
theorem cut_get {ρ : List Addr} {S : Addr → Prop} {H : Hp} {ds : List D} {vs : List V} {lo hi : Option Int} (r : Rps M ρ S H ds vs) : Rps M ρ S H (cutD ds lo hi) (cutV vs lo hi) := by
  unfold cutD cutV
  rw [r.length]
  exact (r.drop _).take _
omit hK in
theorem cut_all {ds : List V} {lo hi : Option Int} (h : HT.sIx ds.length 0 lo = 0 ∧ HT.sIx ds.length ds.length hi = ds.length) : cutV ds lo hi = ds := by
  unfold cutV
  rw [h.1, h.2]
  simp
/-- a slice's reading: the bounds are known -/
def rSl (M : Mo) : V → Option Int → Option Int → Hp → VK → Prop := fun x lo hi H Q => ∃ F ρ h a, Ab0 M F ρ [] h [] H ∧ Rp0 M F ρ H a x ∧ AnsV M F ρ H (slv h a lo hi) Q
theorem sl_V : SlR X (rSl M) := by
  intro pins s σ H x v vl vu lo hi sl Q I rx hs pl pu q
  obtain ⟨F, ρ, h, a, A, ra, ans⟩ := q
  by_cases ht : ∃ z, a = .tup z
  · obtain ⟨z, rfl⟩ := ht
    obtain ⟨p, vs, rfl, t1, r1⟩ := sqt_of hK ra
    simp only [slv] at ans
    refine sl_tupA pins s σ H _ v vl vu lo hi sl Q I rx hs pl pu ⟨p, vs, rfl, t1, fun w => ans _ H (Ext.refl H) ?_, fun _ l hl => ans _ _ (Ext.upd hl) (.tup (.of upd_same) ((cut_get r1).keep ((Ext.upd hl).kp _ _)))⟩
    have e := cut_get (lo := lo) (hi := hi) r1
    rw [cut_all w] at e
    exact .tup (by rw [hK]; exact t1) e
  by_cases hz : ∃ z, a = .str z
  · obtain ⟨z, rfl⟩ := hz
    obtain ⟨e0, ok⟩ := rp_str ra
    cases e0
    simp only [slv] at ans
    split at ans
    · rename_i hl
      refine sl_str pins s σ H _ v vl vu lo hi sl Q I rx hs pl pu ⟨z, rfl, hl, ans _ H (Ext.refl H) (.str _ ?_)⟩
      unfold PyData.strOk at ok ⊢
      rw [Array.all_eq_true_iff_forall_mem] at ok ⊢
      intro c hm
      refine ok c ?_
      unfold cutS at hm
      simp only [List.mem_toArray] at hm
      exact Array.mem_toList_iff.mp (List.mem_of_mem_drop (List.mem_of_mem_take hm))
    · exact ans.elim
  · have e : slv h a lo hi = (items h a).map fun xs => .tl (cutD xs lo hi) := by
      simp only [slv]
      cases a <;> first | rfl | exact absurd ⟨_, rfl⟩ ht | exact absurd ⟨_, rfl⟩ hz
    rw [e] at ans
    cases q : items h a with
    | none => rw [q] at ans; exact ans.elim
    | some xs =>
      rw [q] at ans
      obtain ⟨p, vs, rfl, t1, r1⟩ := sq_of_items hK A ra q
      exact sl_list pins s σ H _ v vl vu lo hi sl Q I rx hs pl pu ⟨p, vs, rfl, t1, fun l hl => ans l _ _ (Ext.upd hl) hl upd_same ((cut_get r1).keep ((Ext.upd hl).kpx hl _ _))⟩
/-! ### isinstance -/
def tpN : Tp → String
  | .int => "int" | .bool => "bool" | .str => "str" | .tuple => "tuple" | .list => "list"
omit hK in
theorem isTp_of {ρ : List Addr} {S : Addr → Prop} {H : Hp} {d : D} {v : V} {t : Tp} {b : Bool} (r : Rp M ρ S H d v) (e : isTp d t = some b) : ∃ n, TyX M.K H v (.type n) ∧ PySem.W.kitOne M.K (.type n) (.type (tpN t)) = some b := by
  cases r with
  | non => exact ⟨_, .base .non, by cases t <;> (simp only [isTp, Option.some.injEq] at e; subst e; exact kit_ty (by decide +kernel))⟩
  | bl x => exact ⟨_, .base (.bl x), by cases t <;> (simp only [isTp, Option.some.injEq] at e; subst e; exact kit_ty (by decide +kernel))⟩
  | int x => exact ⟨_, .base (.int x), by cases t <;> (simp only [isTp, Option.some.injEq] at e; subst e; exact kit_ty (by decide +kernel))⟩
  | str x _ => exact ⟨_, .base (.str x), by cases t <;> (simp only [isTp, Option.some.injEq] at e; subst e; exact kit_ty (by decide +kernel))⟩
  | tup h _ =>
    refine ⟨"tuple", ?_, by cases t <;> (simp only [isTp, Option.some.injEq] at e; subst e; exact kit_ty (by decide +kernel))⟩
    rcases h with (h | ⟨o, h⟩) | ⟨o, its, n, h1, h2, h3, h4, h5⟩
    · exact .base (.tup h)
    · exact .fTuple h
    · exact .kTuple h1 h2
  | lst h _ _ => exact ⟨_, .base (.lst h), by cases t <;> (simp only [isTp, Option.some.injEq] at e; subst e; exact kit_ty (by decide +kernel))⟩
  | dct h _ _ => exact ⟨_, .base (.dK h), by cases t <;> (simp only [isTp, Option.some.injEq] at e; subst e; exact kit_ty (by decide +kernel))⟩
  | fz h _ => simp [isTp] at e
  | ref h => simp [isTp] at e
theorem call_isiV (t : Tp) : CallR X (.builtin "isinstance") (fun xs H Q => ∃ F ρ h a x b, xs = [x, .ty (tpN t)] ∧ Ab0 M F ρ [] h [] H ∧ Rp0 M F ρ H a x ∧ isTps a [t] = some b ∧ Q (.bl b) H) := by
  intro pins s σ H xs us Q I r q
  obtain ⟨F, ρ, h, a, x, b, rfl, A, ra, e, q⟩ := q
  have e' : isTp a t = some b := by
    simp only [isTps] at e
    cases z : isTp a t with
    | none => rw [z] at e; cases e
    | some c => rw [z] at e; cases c <;> exact e
  obtain ⟨n, t1, k1⟩ := isTp_of ra e'
  rw [hK] at t1 k1
  exact call_isi pins s σ H _ us Q I r ⟨x, _, _, _, b, rfl, .ty _, t1, k1, q⟩
omit hK in
theorem isTps_of {ρ : List Addr} {S : Addr → Prop} {H : Hp} {d : D} {v : V} (r : Rp M ρ S H d v) : ∀ {ts : List Tp} {b : Bool}, isTps d ts = some b → ts ≠ [] → ∃ n, TyX M.K H v (.type n) ∧ PySem.W.kitAny M.K (.type n) (ts.map fun t => .type (tpN t)) = some b := by
  have all : ∀ (ts : List Tp) (b : Bool), isTps d ts = some b → ∀ n, (∀ t c, isTp d t = some c → PySem.W.kitOne M.K (.type n) (.type (tpN t)) = some c) → PySem.W.kitAny M.K (.type n) (ts.map fun t => .type (tpN t)) = some b := by
    intro ts
    induction ts with
    | nil =>
      intro b e n _
      simp only [isTps, Option.some.injEq] at e
      subst e
      exact kitAny_nil
    | cons t ts ih =>
      intro b e n hn
      simp only [isTps] at e
      cases z : isTp d t with
      | none => rw [z] at e; cases e
      | some c =>
        rw [z] at e
        refine kitAny_cons (hn t c z) (fun hc => ?_) fun hc => ?_
        · subst hc; exact ih b e n hn
        · subst hc; simp only [Option.some.injEq] at e; exact e.symm
  intro ts b e hts
  have same : ∃ n, TyX M.K H v (.type n) ∧ ∀ t c, isTp d t = some c → PySem.W.kitOne M.K (.type n) (.type (tpN t)) = some c := by
    cases r with
    | non => exact ⟨_, .base .non, fun t c e => by cases t <;> (simp only [isTp, Option.some.injEq] at e; subst e; exact kit_ty (by decide +kernel))⟩
    | bl x => exact ⟨_, .base (.bl x), fun t c e => by cases t <;> (simp only [isTp, Option.some.injEq] at e; subst e; exact kit_ty (by decide +kernel))⟩
    | int x => exact ⟨_, .base (.int x), fun t c e => by cases t <;> (simp only [isTp, Option.some.injEq] at e; subst e; exact kit_ty (by decide +kernel))⟩
    | str x _ => exact ⟨_, .base (.str x), fun t c e => by cases t <;> (simp only [isTp, Option.some.injEq] at e; subst e; exact kit_ty (by decide +kernel))⟩
    | tup h _ =>
      refine ⟨"tuple", ?_, fun t c e => by cases t <;> (simp only [isTp, Option.some.injEq] at e; subst e; exact kit_ty (by decide +kernel))⟩
      rcases h with (h | ⟨o, h⟩) | ⟨o, its, n, h1, h2, h3, h4, h5⟩
      · exact .base (.tup h)
      · exact .fTuple h
      · exact .kTuple h1 h2
    | lst h _ _ => exact ⟨_, .base (.lst h), fun t c e => by cases t <;> (simp only [isTp, Option.some.injEq] at e; subst e; exact kit_ty (by decide +kernel))⟩
    | dct h _ _ => exact ⟨_, .base (.dK h), fun t c e => by cases t <;> (simp only [isTp, Option.some.injEq] at e; subst e; exact kit_ty (by decide +kernel))⟩
    | fz h _ => cases ts with
      | nil => exact absurd rfl hts
      | cons t ts => simp [isTps, isTp] at e
    | ref h => cases ts with
      | nil => exact absurd rfl hts
      | cons t ts => simp [isTps, isTp] at e
  obtain ⟨n, t1, k1⟩ := same
  exact ⟨n, t1, all ts b e n k1⟩
end
end Tc

/-! Tc: expressions. -/
namespace Tc
open PySem L2

/-- where code runs -/
structure Gd (M : Mo) (W : WX) (X : Cx) : Prop where
  hK : M.K = X.K
  nd : X.N.Nodup
  calm : X.calm = true
  tk : Takes X W
  hu : X.A.units + 65 < cLine

section
variable {X : Cx} {M : Mo} {W : WX} {G : Ctx}
theorem _root_.L2.PE.impT {e : Expr} {t t' : TE} (h : PE X e t) (i : ∀ σ H Q, t' σ H Q → t σ H Q) : PE X e t' := ⟨fun pins s σ H Q I q => h.run pins s σ H Q I (i σ H Q q)⟩
theorem _root_.L2.PA.impT {e : List Expr} {t t' : TA} (h : PA X e t) (i : ∀ σ H Q, t' σ H Q → t σ H Q) : PA X e t' := ⟨fun pos pins s σ H Q I q => h.run pos pins s σ H Q I (i σ H Q q)⟩
theorem _root_.L2.PT.impT {e : Expr} {t t' : TT} (h : PT X e t) (i : ∀ σ H Q, t' σ H Q → t σ H Q) : PT X e t' := ⟨fun pins s σ H Q I q => h.run pins s σ H Q I (i σ H Q q)⟩
theorem _root_.L2.PW.impT {e : Expr} {t t' : TT} (h : PW X e t) (i : ∀ σ H Q, t' σ H Q → t σ H Q) : PW X e t' := ⟨fun wh pins s σ H Q I q => h.run wh pins s σ H Q I (i σ H Q q)⟩
theorem _root_.L2.PI.impT {g e : Expr} {t t' : TI} (h : PI X g e t) (i : ∀ σ H Q, t' σ H Q → t σ H Q) : PI X g e t' := ⟨fun pins s σ H Q I q => h.run pins s σ H Q I (i σ H Q q)⟩
theorem _root_.L2.PS.impT {e : Stmt} {t t' : TS} (h : PS X e t) (i : ∀ D σ H, t' D σ H → t D σ H) : PS X e t' := ⟨fun pins s σ H D I q => h.run pins s σ H D I (i D σ H q)⟩
theorem _root_.L2.PSs.impT {e : List Stmt} {t t' : TS} (h : PSs X e t) (i : ∀ D σ H, t' D σ H → t D σ H) : PSs X e t' := ⟨fun pins s σ H D I q => h.run pins s σ H D I (i D σ H q)⟩
theorem _root_.L2.PG.impT {e : Expr} {t t' : TG} (h : PG X e t) (i : ∀ v σ H Q, t' v σ H Q → t v σ H Q) : PG X e t' := ⟨fun pins s σ H v u Q I r q => h.run pins s σ H v u Q I r (i v σ H Q q)⟩
theorem _root_.L2.PGs.impT {e : List Expr} {t t' : TGs} (h : PGs X e t) (i : ∀ v σ H Q, t' v σ H Q → t v σ H Q) : PGs X e t' := ⟨fun pins s σ H v u Q I r q => h.run pins s σ H v u Q I r (i v σ H Q q)⟩

abbrev eT (M : Mo) (W : WX) (G : Ctx) (m : E) : TT := tTest (tE M W G m)

theorem e_var {i : Nat} {x : Str} {pos : Pos} (h : PE X (.Name x pos) (tVar i)) : PE X (.Name x pos) (tE M W G (.var i)) := h.impT fun σ H Q ⟨F, ρ, e, h, A, a⟩ => by
  rw [evE] at a
  split at a
  · rename_i d q
    obtain ⟨v, q1, q2⟩ := A.env i d q
    exact ⟨v, q1, a v ρ H (Step.refl _ _) ⟨A, q2⟩⟩
  · exact a.elim
theorem e_const {x : Expr} {d : D} {v : V} (h : PE X x (tC v)) (r : ∀ F ρ H, Rp0 M F ρ H d v) : PE X x (tE M W G (.lit d)) := h.impT fun σ H Q ⟨F, ρ, e, h, A, a⟩ => by
  rw [evE] at a
  exact a v ρ H (Step.refl _ _) ⟨A, r F ρ H⟩
theorem e_glob {x : Expr} {y : Str} {d : D} {v : V} (h : PE X x (tC v)) (c : G.cst y = some d) (r : ∀ F ρ H, Rp0 M F ρ H d v) : PE X x (tE M W G (.glob y)) := h.impT fun σ H Q ⟨F, ρ, e, h, A, a⟩ => by
  rw [evE, c] at a
  exact a v ρ H (Step.refl _ _) ⟨A, r F ρ H⟩
section
variable {a b c : Expr} {ma mb mc : E} {pos : Pos}
theorem e_bin (g : Gd M W X) {o : Bin} (ha : PE X a (tE M W G ma)) (hb : PE X b (tE M W G mb)) : PE X (.BinOp a (opB o) b pos) (tE M W G (.bin o ma mb)) :=
  (pe_op (op_bin g.hK o) ha hb).impT fun σ H Q ⟨F, ρ, e, h, A, a⟩ => by
    rw [evE] at a
    exact thn1 A a fun d1 h1 v1 ρ1 H1 s1 A1 r1 a1 => thn1 A1 a1 fun d2 h2 v2 ρ2 H2 s2 A2 r2 a2 => ⟨F, ρ2, h2, d1, d2, A2.noenv, r1.keep s2.kp, r2, a2.val A2⟩
theorem cmp_read {o : Cmp} {σ : St} {H : Hp} {Q : VK} (q : tE M W G (.cmp o ma mb) σ H Q) : tOp (rC M (cmpv o)) (tE M W G ma) (tE M W G mb) σ H Q := by
  obtain ⟨F, ρ, e, h, A, a⟩ := q
  rw [evE] at a
  refine thn1 A a fun d1 h1 v1 ρ1 H1 s1 A1 r1 a1 => thn1 A1 a1 fun d2 h2 v2 ρ2 H2 s2 A2 r2 a2 => ?_
  cases q : cmpv o h2 d1 d2 with
  | none => rw [q] at a2; exact a2.elim
  | some k =>
    rw [q] at a2
    exact ⟨F, ρ2, h2, d1, d2, k, A2.noenv, r1.keep s2.kp, r2, q, AnsE.bool A2 a2⟩
theorem e_cmp (g : Gd M W X) {o : Cmp} (ha : PE X a (tE M W G ma)) (hb : PE X b (tE M W G mb)) (hm : behindInMarks (opC o) b = false) : PE X (.Compare a [opC o] [b] pos) (tE M W G (.cmp o ma mb)) :=
  (pe_cmpR (op_cmpV g.hK g.hu o) ha hb hm).impT fun σ H Q q => cmp_read q
theorem t_cmp (g : Gd M W X) {o : Cmp} (ha : PE X a (tE M W G ma)) (hb : PE X b (tE M W G mb)) (hm : behindInMarks (opC o) b = false) : PT X (.Compare a [opC o] [b] pos) (eT M W G (.cmp o ma mb)) :=
  (pt_cmpR (op_cmpV g.hK g.hu o) ha hb hm).impT fun σ H Q q => cmp_read q
/-- two parts, by tests -/
theorem and_read {σ : St} {H : Hp} {Q : Bool → Hp → Prop} (q : eT M W G (.and ma mb) σ H Q) : tAnd (eT M W G ma) (eT M W G mb) σ H Q := by
  obtain ⟨F, ρ, e, h, A, a⟩ := q
  rw [evE] at a
  refine thn1 A a fun d1 h1 v1 ρ1 H1 s1 A1 r1 a1 => ?_
  cases d1 <;> first | exact a1.elim | skip
  rename_i k
  cases rp_bl r1
  refine ⟨k, rfl, ?_⟩
  cases k with
  | true => exact ⟨F, ρ1, e, h1, A1, a1⟩
  | false =>
    obtain ⟨b, e1, q⟩ := AnsE.bool A1 a1
    cases e1
    exact q
theorem or_read {σ : St} {H : Hp} {Q : Bool → Hp → Prop} (q : eT M W G (.or ma mb) σ H Q) : tOr (eT M W G ma) (eT M W G mb) σ H Q := by
  obtain ⟨F, ρ, e, h, A, a⟩ := q
  rw [evE] at a
  refine thn1 A a fun d1 h1 v1 ρ1 H1 s1 A1 r1 a1 => ?_
  cases d1 <;> first | exact a1.elim | skip
  rename_i k
  cases rp_bl r1
  refine ⟨k, rfl, ?_⟩
  cases k with
  | false => exact ⟨F, ρ1, e, h1, A1, a1⟩
  | true =>
    obtain ⟨b, e1, q⟩ := AnsE.bool A1 a1
    cases e1
    exact q
theorem not_read {σ : St} {H : Hp} {Q : Bool → Hp → Prop} (q : eT M W G (.not ma) σ H Q) : tNot (eT M W G ma) σ H Q := by
  obtain ⟨F, ρ, e, h, A, a⟩ := q
  rw [evE] at a
  refine thn1 A a fun d1 h1 v1 ρ1 H1 s1 A1 r1 a1 => ?_
  cases d1 <;> first | exact a1.elim | skip
  rename_i k
  cases rp_bl r1
  obtain ⟨b, e1, q⟩ := AnsE.bool A1 a1
  cases e1
  exact ⟨k, rfl, q⟩
theorem andV_read {σ : St} {H : Hp} {Q : VK} (q : tE M W G (.and ma mb) σ H Q) : tAndV (tE M W G ma) (tE M W G mb) σ H Q := by
  obtain ⟨F, ρ, e, h, A, a⟩ := q
  rw [evE] at a
  refine thn1 A a fun d1 h1 v1 ρ1 H1 s1 A1 r1 a1 => ?_
  cases d1 <;> first | exact a1.elim | skip
  rename_i k
  cases rp_bl r1
  refine ⟨k, rfl, ?_⟩
  cases k with
  | true => exact ⟨F, ρ1, e, h1, A1, a1⟩
  | false => exact AnsE.bool A1 a1
theorem orV_read {σ : St} {H : Hp} {Q : VK} (q : tE M W G (.or ma mb) σ H Q) : tOrV (tE M W G ma) (tE M W G mb) σ H Q := by
  obtain ⟨F, ρ, e, h, A, a⟩ := q
  rw [evE] at a
  refine thn1 A a fun d1 h1 v1 ρ1 H1 s1 A1 r1 a1 => ?_
  cases d1 <;> first | exact a1.elim | skip
  rename_i k
  cases rp_bl r1
  refine ⟨k, rfl, ?_⟩
  cases k with
  | false => exact ⟨F, ρ1, e, h1, A1, a1⟩
  | true => exact AnsE.bool A1 a1
theorem notV_read {σ : St} {H : Hp} {Q : VK} (q : tE M W G (.not ma) σ H Q) : tNotV (tE M W G ma) σ H Q := by
  obtain ⟨F, ρ, e, h, A, a⟩ := q
  rw [evE] at a
  refine thn1 A a fun d1 h1 v1 ρ1 H1 s1 A1 r1 a1 => ?_
  cases d1 <;> first | exact a1.elim | skip
  rename_i k
  cases rp_bl r1
  exact ⟨k, rfl, AnsE.bool A1 a1⟩
theorem e_ix (g : Gd M W X) (ha : PE X a (tE M W G ma)) (hb : PE X b (tE M W G mb)) (hp : PlainIx b) : PE X (.Subscript a b pos) (tE M W G (.ix ma mb)) :=
  (pe_ix (ix_V g.hK) ha hb hp).impT fun σ H Q ⟨F, ρ, e, h, A, a⟩ => by
    rw [evE] at a
    exact thn1 A a fun d1 h1 v1 ρ1 H1 s1 A1 r1 a1 => thn1 A1 a1 fun d2 h2 v2 ρ2 H2 s2 A2 r2 a2 => ⟨F, ρ2, h2, d1, d2, A2.noenv, r1.keep s2.kp, r2, a2.val A2⟩
theorem bnd_read {σ : St} {H : Hp} {F : Addr → Prop} {ρ : List Addr} {e : Env} {h : Sto} {k : Int → Sto → Option Out} {Q : VK} {R : Option Int → Hp → Prop} (A : Ab0 M F ρ e h σ H)
    (a : AnsE M W F ρ H e σ (thenE (evE G ma e h) fun l h2 => match l with | .int l => k l h2 | _ => none) Q)
    (hk : ∀ i h1 ρ1 H1, Step ρ H ρ1 H1 → Ab0 M F ρ1 e h1 σ H1 → AnsE M W F ρ1 H1 e σ (k i h1) Q → R (some i) H1) : tPart (tE M W G ma) σ H R :=
  thn1 A a fun d1 h1 v1 ρ1 H1 s1 A1 r1 a1 => by
    cases d1 <;> first | exact a1.elim | skip
    rename_i i
    exact ⟨i, rp_int r1, hk i h1 ρ1 H1 s1 A1 a1⟩
theorem e_sl (g : Gd M W X) {p2 : Pos} (ha : PE X a (tE M W G ma)) (hb : PE X b (tE M W G mb)) (hc : PE X c (tE M W G mc)) : PE X (.Subscript a (.Slice (some b) (some c) none p2) pos) (tE M W G (.sl ma mb mc)) :=
  (pe_slice (sl_V g.hK) ha (po_some hb) (po_some hc)).impT fun σ H Q ⟨F, ρ, e, h, A, a⟩ => by
    rw [evE] at a
    exact thn1 A a fun d1 h1 v1 ρ1 H1 s1 A1 r1 a1 => bnd_read A1 a1 fun i h2 ρ2 H2 s2 A2 a2 => bnd_read A2 a2 fun j h3 ρ3 H3 s3 A3 a3 => ⟨F, ρ3, h3, d1, A3.noenv, r1.keep (s2.trans s3).kp, a3.val A3⟩
theorem e_slf (g : Gd M W X) {p2 : Pos} (ha : PE X a (tE M W G ma)) (hb : PE X b (tE M W G mb)) : PE X (.Subscript a (.Slice (some b) none none p2) pos) (tE M W G (.slf ma mb)) :=
  (pe_slice (sl_V g.hK) ha (po_some hb) po_none).impT fun σ H Q ⟨F, ρ, e, h, A, a⟩ => by
    rw [evE] at a
    exact thn1 A a fun d1 h1 v1 ρ1 H1 s1 A1 r1 a1 => bnd_read A1 a1 fun i h2 ρ2 H2 s2 A2 a2 => ⟨F, ρ2, h2, d1, A2.noenv, r1.keep s2.kp, a2.val A2⟩
theorem e_slt (g : Gd M W X) {p2 : Pos} (ha : PE X a (tE M W G ma)) (hb : PE X b (tE M W G mb)) : PE X (.Subscript a (.Slice none (some b) none p2) pos) (tE M W G (.slt ma mb)) :=
  (pe_slice (sl_V g.hK) ha po_none (po_some hb)).impT fun σ H Q ⟨F, ρ, e, h, A, a⟩ => by
    rw [evE] at a
    exact thn1 A a fun d1 h1 v1 ρ1 H1 s1 A1 r1 a1 => show tPart (tE M W G mb) σ H1 (fun u H3 => rSl M v1 none u H3 Q) from bnd_read A1 a1 fun i h2 ρ2 H2 s2 A2 a2 => ⟨F, ρ2, h2, d1, A2.noenv, r1.keep s2.kp, a2.val A2⟩
end
end
end Tc

/-! Tc: arguments, displays, calls, what is walked, targets, comprehensions. -/
namespace Tc
open PySem L2
section
variable {M : Mo} {F : Addr → Prop} {ρ ρ' ρ1 ρ2 : List Addr} {X1 X2 X3 : Addr → Prop} {H H' H1 H2 H3 : Hp} {e : Env} {h h' : Sto} {σ : St}
theorem Kp.trans (a : Kp ρ ρ1 X1 X2 H H1) (b : Kp ρ1 ρ2 X2 X3 H1 H2) : Kp ρ ρ2 X1 X3 H H2 :=
  ⟨fun n x e => b.pre n x (a.pre n x e), fun x xs e => b.tups x xs (a.tups x xs e), fun x o u e => b.frzs x o u (a.frzs x o u e), fun x u e n => b.keep x u (a.keep x u e n).1 (a.keep x u e n).2⟩
/-- the names as they were, the store as it is -/
theorem Ab.reenv (A : Ab M ρ X1 e h σ H) (k : Kp ρ ρ' X1 X2 H H') {e' : Env} {σ' : St} (B : Ab M ρ' X2 e' h' σ' H') : Ab M ρ' X2 e h' σ H' where
  hl := B.hl
  nd := B.nd
  ob := B.ob
  el := A.el
  env := fun i d q => by
    obtain ⟨v, q1, q2⟩ := A.env i d q
    exact ⟨v, q1, q2.keep k⟩
  fx := B.fx
theorem Step.kpx {a : Addr} (s : Step ρ H ρ' H') (n : H a = none) : Kp ρ ρ' (Xo F ρ) (fun b => b = a ∨ Xo F ρ' b) H H' :=
  ⟨s.pre, s.tups, s.frzs, fun b u e m => ⟨(s.kp (F := F)).keep b u e m |>.1, fun z => by
    rcases z with z | z
    · subst z; rw [n] at e; cases e
    · exact ((s.kp (F := F)).keep b u e m).2 z⟩⟩
theorem PostR.reenv {r : R} {v : V} {e' : Env} {σ' : St} (A : Ab0 M F ρ e h σ H) (s : Step ρ H ρ' H') (p : PostR M F H ρ' H' e' h' σ' r v) : PostR M F H ρ' H' e h' σ r v := by
  cases r with
  | d d => exact ⟨A.reenv s.kp p.1, p.2⟩
  | tl xs =>
    obtain ⟨a, vs, e1, n, na, q, B, rs⟩ := p
    exact ⟨a, vs, e1, n, na, q, A.reenv (s.kpx n) B, rs⟩
  | td xs =>
    obtain ⟨a, vs, e1, n, na, q, B, rs⟩ := p
    exact ⟨a, vs, e1, n, na, q, A.reenv (s.kpx n) B, rs⟩
end
/-- a call's answer -/
def AnsC (M : Mo) (F : Addr → Prop) (ρ : List Addr) (H : Hp) (o : Option Out) (Q : VK) (E : XK) : Prop := match o with
  | some (.ok r h') => ∀ v ρ' H', Step ρ H ρ' H' → PostR M F H ρ' H' [] h' [] r v → Q v H'
  | some (.ex x h') => ∀ cls d ρ' H', Step ρ H ρ' H' → Ab0 M F ρ' [] h' [] H' → RpX M F ρ' H' x cls d → E cls d H'
  | none => False
/-- a def's promise: it answers as fn says -/
def spF (M : Mo) (np : Nat) (fn : List D → Sto → Option Out) : Sp := fun vs H Q E => vs.length = np ∧ ∃ F ρ h ds, Ab0 M F ρ [] h [] H ∧ Rps0 M F ρ H ds vs ∧ AnsC M F ρ H (fn ds h) Q E
theorem AnsE.call {M : Mo} {W : WX} {F : Addr → Prop} {ρ : List Addr} {H : Hp} {e : Env} {h : Sto} {σ : St} {o : Option Out} {Q : VK} (A : Ab0 M F ρ e h σ H) (a : AnsE M W F ρ H e σ o Q) : AnsC M F ρ H o Q (WE W σ) := by
  cases o with
  | none => exact a
  | some o => cases o with
    | ok r h' => exact fun v ρ' H' s p => a v ρ' H' s (p.reenv A s)
    | ex x h' => exact fun cls d ρ' H' s B r => a cls d ρ' H' s (A.reenv s.kp B) r

section
variable {X : Cx} {M : Mo} {W : WX} {G : Ctx}
/-! ### argument lists, displays -/
def E.alen : E → Nat
  | .acons _ r => r.alen + 1
  | _ => 0
theorem evA_len : ∀ {m : E} {e : Env} {h : Sto} {ds : List D} {h' : Sto}, evA G m e h = some (.ok ds h') → ds.length = m.alen
  | .anil, _, _, _, _, q => by
    rw [evA] at q
    cases q
    rfl
  | .acons a r, e, h, _, _, q => by
    rw [evA] at q
    split at q
    · split at q
      · rename_i h2
        cases q
        rw [List.length_cons, evA_len h2]
        rfl
      · rename_i h2
        exact absurd q (h2 _ _)
    · cases q
    · cases q
  | .var _, _, _, _, _, q => by simp [evA] at q
  | .lit _, _, _, _, _, q => by simp [evA] at q
  | .glob _, _, _, _, _, q => by simp [evA] at q
  | .call _ _, _, _, _, _, q => by simp [evA] at q
  | .b1 _ _, _, _, _, _, q => by simp [evA] at q
  | .b2 _ _ _, _, _, _, _, q => by simp [evA] at q
  | .bin _ _ _, _, _, _, _, q => by simp [evA] at q
  | .cmp _ _ _, _, _, _, _, q => by simp [evA] at q
  | .chain _ _ _ _ _, _, _, _, _, q => by simp [evA] at q
  | .and _ _, _, _, _, _, q => by simp [evA] at q
  | .or _ _, _, _, _, _, q => by simp [evA] at q
  | .not _, _, _, _, _, q => by simp [evA] at q
  | .tup _, _, _, _, _, q => by simp [evA] at q
  | .lst _, _, _, _, _, q => by simp [evA] at q
  | .dct _ _, _, _, _, _, q => by simp [evA] at q
  | .obj _, _, _, _, _, q => by simp [evA] at q
  | .ix _ _, _, _, _, _, q => by simp [evA] at q
  | .sl _ _ _, _, _, _, _, q => by simp [evA] at q
  | .slf _ _, _, _, _, _, q => by simp [evA] at q
  | .slt _ _, _, _, _, _, q => by simp [evA] at q
  | .lc _ _ _ _, _, _, _, _, q => by simp [evA] at q
  | .lcc _ _ _ _ _, _, _, _, _, q => by simp [evA] at q
  | .isi _ _, _, _, _, _, q => by simp [evA] at q
  | .met _ _ _, _, _, _, _, q => by simp [evA] at q
  | .fld _ _, _, _, _, _, q => by simp [evA] at q
  | .mk _, _, _, _, _, q => by simp [evA] at q
  | .mcall _ _ _, _, _, _, _, q => by simp [evA] at q
  | .irng1 _, _, _, _, _, q => by simp [evA] at q
  | .irng2 _ _, _, _, _, _, q => by simp [evA] at q
  | .irng3 _ _ _, _, _, _, _, q => by simp [evA] at q
  | .iseq _, _, _, _, _, q => by simp [evA] at q
  | .ienum _, _, _, _, _, q => by simp [evA] at q
  | .izip _ _, _, _, _, _, q => by simp [evA] at q
theorem thnAl {F : Addr → Prop} {ρ : List Addr} {H : Hp} {e : Env} {h : Sto} {σ : L2.St} {m : E} {k : List D → Sto → Option Out} {Q : VK} {R : List V → Hp → Prop} (A : Ab0 M F ρ e h σ H) (a : AnsE M W F ρ H e σ (thenA (evA G m e h) k) Q)
    (hk : ∀ d h1 v ρ1 H1, v.length = m.alen → Step ρ H ρ1 H1 → Ab0 M F ρ1 e h1 σ H1 → Rps0 M F ρ1 H1 d v → AnsE M W F ρ1 H1 e σ (k d h1) Q → R v H1) : tA M W G m σ H R := by
  refine ⟨F, ρ, e, h, A, ?_⟩
  cases q : evA G m e h with
  | none => rw [q] at a; exact a
  | some o => cases o with
    | ok r h1 =>
      rw [q] at a
      intro v ρ1 H1 s A1 p
      exact hk r h1 v ρ1 H1 (by rw [← p.length]; exact evA_len q) s A1 p (AnsE.later s a)
    | ex x h1 =>
      rw [q] at a
      exact a
section
variable {a b c x : Expr} {es : List Expr} {ma mb mc : E} {pos p : Pos}
theorem a_nil : PA X [] (tA M W G .anil) := pa_nil.impT fun σ H Q ⟨F, ρ, e, h, A, a⟩ => by
  rw [evA] at a
  exact a [] ρ H (Step.refl _ _) A .nil
theorem a_cons (ha : PE X a (tE M W G ma)) (hb : PA X es (tA M W G mb)) (hs : starEach (a :: es) X.env = (false, eval a X.env) :: starEach es X.env) : PA X (a :: es) (tA M W G (.acons ma mb)) :=
  (pa_cons ha hb hs).impT fun σ H Q ⟨F, ρ, e, h, A, a⟩ => by
    rw [evA] at a
    refine ⟨F, ρ, e, h, A, ?_⟩
    cases q : evE G ma e h with
    | none => rw [q] at a; exact a
    | some o => cases o with
      | ex x h1 => rw [q] at a; exact a
      | ok r h1 =>
        rw [q] at a
        intro v ρ1 H1 s1 p1
        obtain ⟨A1, r1⟩ := p1.sh
        refine ⟨F, ρ1, e, h1, A1, ?_⟩
        cases q2 : evA G mb e h1 with
        | none => simp only [q2] at a; exact a
        | some o => cases o with
          | ex x h2 => simp only [q2] at a; exact fun cls d ρ' H' s A' rx => a cls d ρ' H' (s1.trans s) A' rx
          | ok ds h2 =>
            simp only [q2] at a
            exact fun vs ρ2 H2 s2 A2 r2 => a _ ρ2 H2 (s1.trans s2) A2 (.cons (r1.keep s2.kp) r2)
theorem small_line {n : Nat} (h : n ≤ 1000) : n ≤ sizeLine := Nat.le_trans h (by decide)
theorem e_tup {k : Nat} (ha : PA X es (tA M W G ma)) (hl : ma.alen ≤ 1000) : PE X (.Tuple es k pos) (tE M W G (.tup ma)) :=
  (pe_tup ha).impT fun σ H Q ⟨F, ρ, e, h, A, a⟩ => by
    rw [evE] at a
    exact thnAl A a fun ds h1 vs ρ1 H1 hz s1 A1 r1 a1 => ⟨by rw [hz]; exact small_line hl, fun p hp => a1 _ ρ1 _ ((Ext.upd hp).step ρ1) ⟨A1.grow (Ext.upd hp), .tup (.of upd_same) (r1.keep ((Ext.upd hp).kp _ _))⟩⟩
theorem e_lst (ha : PA X es (tA M W G ma)) (hl : ma.alen ≤ 1000) : PE X (.List es pos) (tE M W G (.lst ma)) :=
  (pe_lst ha).impT fun σ H Q ⟨F, ρ, e, h, A, a⟩ => by
    rw [evE] at a
    exact thnAl A a fun ds h1 vs ρ1 H1 hz s1 A1 r1 a1 => ⟨by rw [hz]; exact small_line hl, fun p hp => a1 _ ρ1 _ ((Ext.upd hp).step ρ1) ⟨p, vs, rfl, hp, A1.notin hp, upd_same, A1.shut (Ext.upd hp) hp upd_same, r1.keep ((Ext.upd hp).kpx hp _ _)⟩⟩
/-! ### calls -/
section
variable {k np : Nat} {f : Addr} {fd : FuncData} {ps : List Str} {y : Str}
theorem e_call (g : Gd M W X) (Fk : FnOk X.prog X.w X.K X.mg X.base (L2.CX X.prog X.w) k f fd ps (spF M np (G.call y))) (hr : Room k X.A) (hg : Gl X y) (hm : X.mg y = some (.ref f)) (hk : PySem.W.keepIn X.K (.ref f) = true) (hb : Binds X.K fd ps [])
    (ha : PA X (a :: es) (tA M W G ma)) (hl : ma.alen = np) (hdb : (y == ("__debug__" : Str)) = false) (he : starEach (a :: es) X.env = (false, eval a X.env) :: starEach es X.env) (hpl : (backTo pos (starEach es X.env)).any (·.1) = false) :
    PE X (.Call (.Name y p) (a :: es) [] pos) (tE M W G (.call y ma)) :=
  (pe_callS (E := WE W) Fk hr hg hm hk hb (fun σ => passAt g.tk σ) ha hdb he hpl).impT fun σ H Q ⟨F, ρ, e, h, A, a⟩ => by
    rw [evE] at a
    exact thnAl A a fun ds h1 vs ρ1 H1 hz s1 A1 r1 a1 => ⟨hz.trans hl, F, ρ1, h1, ds, A1.noenv, r1, a1.call A1⟩
theorem pe_callS0 {sp : Sp} {E : L2.St → XK} (F : FnOk X.prog X.w X.K X.mg X.base (L2.CX X.prog X.w) k f fd ps sp) (hr : Room k X.A) (hg : Gl X y) (hm : X.mg y = some (.ref f)) (hk : PySem.W.keepIn X.K (.ref f) = true) (hb : Binds X.K fd ps []) (hx : ∀ σ, PassesAt (L2.CX X.prog X.w) X σ (E σ))
    (hdb : (y == ("__debug__" : Str)) = false) : PE X (.Call (.Name y p) [] [] pos) (tCallS sp E tNil) := by
  refine ⟨fun pins s σ H Q I h => ?_⟩
  refine wpAny_Call_Name_kw (ld_glob I hg hm ?_ hdb)
  exact PySem.W.callWith_K0 I.kIn hk (run_fnS (us := []) F hr hb (hx σ) I .nil h)
theorem e_call0 (g : Gd M W X) (Fk : FnOk X.prog X.w X.K X.mg X.base (L2.CX X.prog X.w) k f fd ps (spF M 0 (G.call y))) (hr : Room k X.A) (hg : Gl X y) (hm : X.mg y = some (.ref f)) (hk : PySem.W.keepIn X.K (.ref f) = true) (hb : Binds X.K fd ps [])
    (hdb : (y == ("__debug__" : Str)) = false) : PE X (.Call (.Name y p) [] [] pos) (tE M W G (.call y .anil)) :=
  (pe_callS0 (E := WE W) Fk hr hg hm hk hb (fun σ => passAt g.tk σ) hdb).impT fun σ H Q ⟨F, ρ, e, h, A, a⟩ => by
    rw [evE, evA] at a
    exact ⟨rfl, F, ρ, h, [], A.noenv, .nil, AnsE.call A a⟩
end
/-! ### built-ins -/
theorem e_b1B {o : B1} {id : String} {y : Str} (g : Gd M W X) (hc : CallR X (.builtin id) (rV1 M (b1v o))) (hg : Gl X y) (hm : X.mg y = none) (hv : bootBuiltins y = some (.builtin id)) (ha : PE X a (tE M W G ma)) (hn : y ≠ "__name__") (hdb : (y == ("__debug__" : Str)) = false)
    (hs : starEach [a] X.env = [(false, eval a X.env)]) : PE X (.Call (.Name y p) [a] [] pos) (tE M W G (.b1 o ma)) :=
  (pe_callB hc hg hm hv (pa_cons ha pa_nil hs) hn hdb hs rfl).impT fun σ H Q ⟨F, ρ, e, h, A, a⟩ => by
    rw [evE] at a
    exact thn1 A a fun d1 h1 v1 ρ1 H1 s1 A1 r1 a1 => ⟨F, ρ1, h1, d1, v1, rfl, A1.noenv, r1, a1.val A1⟩
theorem e_b1T {o : B1} {id : String} {y : Str} (g : Gd M W X) (hc : CallR X (.type id) (rV1 M (b1v o))) (hg : Gl X y) (hm : X.mg y = none) (hv : bootBuiltins y = some (.type id)) (ha : PE X a (tE M W G ma)) (hn : y ≠ "__name__") (hdb : (y == ("__debug__" : Str)) = false)
    (hs : starEach [a] X.env = [(false, eval a X.env)]) : PE X (.Call (.Name y p) [a] [] pos) (tE M W G (.b1 o ma)) :=
  (pe_callTy hc hg hm hv (pa_cons ha pa_nil hs) hn hdb hs rfl).impT fun σ H Q ⟨F, ρ, e, h, A, a⟩ => by
    rw [evE] at a
    exact thn1 A a fun d1 h1 v1 ρ1 H1 s1 A1 r1 a1 => ⟨F, ρ1, h1, d1, v1, rfl, A1.noenv, r1, a1.val A1⟩
theorem e_b2B {o : B2} {id : String} {y : Str} (g : Gd M W X) (hc : CallR X (.builtin id) (rV2 M (b2v o))) (hg : Gl X y) (hm : X.mg y = none) (hv : bootBuiltins y = some (.builtin id)) (ha : PE X a (tE M W G ma)) (hb : PE X b (tE M W G mb)) (hn : y ≠ "__name__") (hdb : (y == ("__debug__" : Str)) = false)
    (hs1 : starEach [a, b] X.env = (false, eval a X.env) :: starEach [b] X.env) (hs : starEach [b] X.env = [(false, eval b X.env)]) : PE X (.Call (.Name y p) [a, b] [] pos) (tE M W G (.b2 o ma mb)) :=
  (pe_callB hc hg hm hv (pa_cons ha (pa_cons hb pa_nil hs) hs1) hn hdb hs1 (by rw [hs]; rfl)).impT fun σ H Q ⟨F, ρ, e, h, A, a⟩ => by
    rw [evE] at a
    exact thn1 A a fun d1 h1 v1 ρ1 H1 s1 A1 r1 a1 => thn1 A1 a1 fun d2 h2 v2 ρ2 H2 s2 A2 r2 a2 => ⟨F, ρ2, h2, d1, d2, v1, v2, rfl, A2.noenv, r1.keep s2.kp, r2, a2.val A2⟩
/-- isinstance(a, T) -/
theorem e_isi {t : Tp} {q : Expr} (g : Gd M W X) (hg : Gl X "isinstance") (hm : X.mg "isinstance" = none) (hv : bootBuiltins "isinstance" = some (.builtin "isinstance")) (ha : PE X a (tE M W G ma)) (hq : PE X q (tC (.ty (tpN t))))
    (hs1 : starEach [a, q] X.env = (false, eval a X.env) :: starEach [q] X.env) (hs : starEach [q] X.env = [(false, eval q X.env)]) : PE X (.Call (.Name "isinstance" p) [a, q] [] pos) (tE M W G (.isi ma [t])) :=
  (pe_callB (call_isiV g.hK t) hg hm hv (pa_cons ha (pa_cons hq pa_nil hs) hs1) (by decide) (by decide) hs1 (by rw [hs]; rfl)).impT fun σ H Q ⟨F, ρ, e, h, A, a⟩ => by
    rw [evE] at a
    refine thn1 A a fun d1 h1 v1 ρ1 H1 s1 A1 r1 a1 => ?_
    cases z : isTps d1 [t] with
    | none => rw [z] at a1; exact a1.elim
    | some k =>
      rw [z] at a1
      exact ⟨F, ρ1, h1, d1, v1, k, rfl, A1.noenv, r1, z, AnsE.bool A1 a1⟩
end
/-! ### targets -/
def T.slots : T → List Nat
  | .v i => [i]
  | .m i => [i]
  | .tp t => t.slots
  | .nil => []
  | .cons t r => t.slots ++ r.slots
def gT (M : Mo) (t : T) : TG := fun v σ H Q => ∃ F ρ e h d e1, Ab0 M F ρ e h σ H ∧ Rp0 M F ρ H d v ∧ bindT t d e h = some e1 ∧ ∀ σ', Ab0 M F ρ e1 h σ' H → (∀ vs : List Nat, (∀ i ∈ t.slots, i ∈ vs) → wipe σ' vs = wipe σ vs) → Q σ' H
def gTs (M : Mo) (t : T) : TGs := fun us σ H Q => ∃ F ρ e h ds e1, Ab0 M F ρ e h σ H ∧ Rps0 M F ρ H ds us ∧ bindTs t ds e h = some e1 ∧ ∀ σ', Ab0 M F ρ e1 h σ' H → (∀ vs : List Nat, (∀ i ∈ t.slots, i ∈ vs) → wipe σ' vs = wipe σ vs) → Q σ' H
theorem wipe_set {σ : L2.St} {i : Nat} {v : Option V} : ∀ {vs : List Nat}, i ∈ vs → wipe (σ.set i v) vs = wipe σ vs
  | j :: vs, hm => by
    unfold wipe
    by_cases hj : j = i
    · subst hj
      by_cases hm2 : j ∈ vs
      · rw [wipe_set hm2]
      · have go : ∀ {us : List Nat}, j ∉ us → (wipe (σ.set j v) us).set j none = (wipe σ us).set j none := by
          intro us
          induction us with
          | nil => intro _; unfold wipe; rw [List.set_set]
          | cons u us ih =>
            intro hu
            simp only [List.mem_cons, not_or] at hu
            unfold wipe
            rw [List.set_comm _ _ (Ne.symm hu.1), ih hu.2, List.set_comm _ _ hu.1]
        exact go hm2
    · rw [wipe_set (by rcases List.mem_cons.mp hm with z | z; exact absurd z.symm hj; exact z)]
theorem g_v {i : Nat} {tg : Expr} (h : PG X tg (gName i)) : PG X tg (gT M (.v i)) := h.impT fun v σ H Q ⟨F, ρ, e, h, d, e1, A, r, b, q⟩ => by
  rw [bindT] at b
  cases b
  exact q _ (A.setEnv r) fun vs hv => wipe_set (hv i (by simp [T.slots]))
theorem gs_nil : PGs X [] (gTs M .nil) := pgs_nil.impT fun v σ H Q ⟨F, ρ, e, h, ds, e1, A, r, b, q⟩ => by
  cases ds with
  | nil =>
    rw [bindTs] at b
    cases b
    exact ⟨rps_nil r, q σ A fun _ _ => rfl⟩
  | cons d ds => rw [bindTs] at b; cases b; all_goals (intros; contradiction)
theorem gs_cons {tg : Expr} {es : List Expr} {t r : T} (h1 : PG X tg (gT M t)) (h2 : PGs X es (gTs M r)) (hs : (assignEach (tg :: es) X.env).map (·.2) = assign tg X.env :: (assignEach es X.env).map (·.2)) : PGs X (tg :: es) (gTs M (.cons t r)) :=
  (pgs_cons h1 h2 hs).impT fun v σ H Q ⟨F, ρ, e, h, ds, e1, A, r, b, q⟩ => by
    cases ds with
    | nil => rw [bindTs] at b; cases b; all_goals (intros; contradiction)
    | cons d ds =>
      rw [bindTs] at b
      simp only [Option.bind_eq_some_iff] at b
      obtain ⟨e2, b1, b2⟩ := b
      obtain ⟨w, us, rfl, r1, r2⟩ := rps_cons r
      exact ⟨w, us, rfl, F, ρ, e, h, d, e2, A, r1, b1, fun σ' A' w1 => ⟨F, ρ, e2, h, ds, e1, A', r2, b2, fun σ'' A'' w2 => q σ'' A'' fun vs hv =>
        (w2 vs fun i hi => hv i (by simp only [T.slots, List.mem_append]; exact .inr hi)).trans (w1 vs fun i hi => hv i (by simp only [T.slots, List.mem_append]; exact .inl hi))⟩⟩
theorem bindTs_len : ∀ {t : T} {ds : List D} {e e1 : Env} {h : Sto}, bindTs t ds e h = some e1 → ∀ {n : Nat}, (∀ {us : List D} {e e1 : Env} {h : Sto}, bindTs t us e h = some e1 → us.length = n) → ds.length = n := fun q _ h => h q
def T.tlen : T → Nat
  | .cons _ r => r.tlen + 1
  | _ => 0
theorem bindTs_tlen : ∀ {t : T} {ds : List D} {e e1 : Env} {h : Sto}, bindTs t ds e h = some e1 → ds.length = t.tlen
  | .nil, [], _, _, _, _ => rfl
  | .nil, _ :: _, _, _, _, q => by simp [bindTs] at q
  | .cons t r, [], _, _, _, q => by simp [bindTs] at q
  | .cons t r, d :: ds, _, _, _, q => by
    rw [bindTs] at q
    simp only [Option.bind_eq_some_iff] at q
    obtain ⟨e2, _, b2⟩ := q
    rw [List.length_cons, bindTs_tlen b2]
    rfl
  | .v _, [], _, _, _, q => by simp [bindTs] at q
  | .v _, _ :: _, _, _, _, q => by simp [bindTs] at q
  | .m _, [], _, _, _, q => by simp [bindTs] at q
  | .m _, _ :: _, _, _, _, q => by simp [bindTs] at q
  | .tp _, [], _, _, _, q => by simp [bindTs] at q
  | .tp _, _ :: _, _, _, _, q => by simp [bindTs] at q
theorem g_tp {es : List Expr} {k : Nat} {t : T} {pos : Pos} (g : Gd M W X) (h : PGs X es (gTs M t)) (hn : (assignEach es X.env).length = t.tlen) (hst : (assignEach es X.env).findIdx? (·.1) = none) : PG X (.Tuple es k pos) (gT M (.tp t)) := by
  refine ⟨fun pins s σ H v u Q I rv q => ?_⟩
  obtain ⟨F, ρ, e, h1, d, e1, A, r, b, q⟩ := q
  cases d <;> first | (rw [bindT] at b; cases b) | skip
  all_goals first | (intros; contradiction) | skip
  · rename_i xs
    rw [bindT] at b
    obtain ⟨a, vs, rfl, t1, r1⟩ := sqt_of g.hK r
    exact (pg_tup (n := t.tlen) g.calm h hn hst).run pins s σ H _ u Q I rv ⟨a, vs, rfl, t1, by rw [← r1.length]; exact bindTs_tlen b, F, ρ, e, h1, xs, e1, A, r1, b, q⟩
  · rename_i xs
    rw [bindT] at b
    obtain ⟨a, vs, rfl, t1, _, r1⟩ := rp_lst r
    exact (pg_lst (n := t.tlen) g.calm h hn hst).run pins s σ H _ u Q I rv ⟨a, vs, rfl, .of t1, by rw [← r1.length]; exact bindTs_tlen b, F, ρ, e, h1, xs, e1, A, r1, b, q⟩
end
end Tc

/-! Tc: what is walked, comprehensions. -/
namespace Tc
open PySem L2
/-- the store's list that is walked stands as it stood -/
def srcRp (M : Mo) (ρ : List Addr) (S : Addr → Prop) (H : Hp) (ds : List D) : Option Nat → Prop
  | none => True
  | some n => ∃ a vs, ρ[n]? = some a ∧ H a = some (.lst vs) ∧ Rps M ρ S H ds vs
/-- the iterator J yields the items ds, whatever is done meanwhile -/
def Walks (M : Mo) (F : Addr → Prop) (ρ1 : List Addr) (H1 : Hp) (J : It) (ds : List D) (src : Option Nat) : Prop :=
  ∀ i ρ2 X2 H2, Kp ρ1 ρ2 (Xo F ρ1) X2 H1 H2 → srcRp M ρ2 X2 H2 ds src →
    (∀ d, ds[i]? = some d → J.go i H2 ∧ ∀ x H3, J.yld i H2 x H3 → Ext H2 H3 ∧ Rp M ρ2 X2 H3 d x) ∧ (ds.length ≤ i → J.stop i H2)
def AnsI (M : Mo) (W : WX) (F : Addr → Prop) (ρ : List Addr) (H : Hp) (e : Env) (σ : L2.St) (o : Option OutI) (R : It → Hp → Prop) : Prop := match o with
  | some (.ok ds src h') => ∀ J ρ' H', Step ρ H ρ' H' → Ab0 M F ρ' e h' σ H' → Walks M F ρ' H' J ds src → R J H'
  | some (.ex x h') => ∀ cls d ρ' H', Step ρ H ρ' H' → Ab0 M F ρ' e h' σ H' → RpX M F ρ' H' x cls d → W cls d σ H'
  | none => False
def tI (M : Mo) (W : WX) (G : Ctx) (m : E) : TI := fun σ H R => ∃ F ρ e h, Ab0 M F ρ e h σ H ∧ AnsI M W F ρ H e σ (evI G m e h) R
section
variable {M : Mo} {F : Addr → Prop} {ρ : List Addr} {H : Hp}
theorem walks_lst {K : PySem.W.Frag} {a : Addr} {vs : List V} {xs : List D} (q : H a = some (.lst vs)) (n : ¬ Xo F ρ a) (r : Rps0 M F ρ H xs vs) : Walks M F ρ H (Itl K a) xs none := fun i ρ2 X2 H2 k _ => by
  have q2 := (k.keep a _ q n).1
  have r2 := r.keep k
  refine ⟨fun d e => ?_, fun hl => ⟨vs, .of q2, by rw [← r.length]; exact hl⟩⟩
  obtain ⟨v, e1, e2⟩ := r2.get e
  refine ⟨⟨vs, v, .of q2, e1⟩, fun x H3 y => ?_⟩
  obtain ⟨rfl, y⟩ := y
  have e3 := y vs (.of q2)
  rw [e1] at e3
  cases e3
  exact ⟨Ext.refl _, e2⟩
theorem walks_fz {a : Addr} {vs : List V} {xs : List D} (q : Fz M.K H a vs) (r : Rps0 M F ρ H xs vs) : Walks M F ρ H (Itl M.K a) xs none := fun i ρ2 X2 H2 k _ => by
  have q2 : SqL M.K H2 a vs := Fz.sql (q.imp (fun ⟨o, q⟩ => ⟨o, k.frzs a _ _ q⟩) id)
  have r2 := r.keep k
  refine ⟨fun d e => ?_, fun hl => ⟨vs, q2, by rw [← r.length]; exact hl⟩⟩
  obtain ⟨v, e1, e2⟩ := r2.get e
  refine ⟨⟨vs, v, q2, e1⟩, fun x H3 y => ?_⟩
  obtain ⟨rfl, y⟩ := y
  have e3 := y vs q2
  rw [e1] at e3
  cases e3
  exact ⟨Ext.refl _, e2⟩
theorem walks_tup {a : Addr} {vs : List V} {xs : List D} (q : SqT M.K H a vs) (r : Rps0 M F ρ H xs vs) : Walks M F ρ H (Itt M.K a) xs none := fun i ρ2 X2 H2 k _ => by
  have q2 := sqT_keep (M := M) k q
  have r2 := r.keep k
  refine ⟨fun d e => ?_, fun hl => ⟨vs, q2, by rw [← r.length]; exact hl⟩⟩
  obtain ⟨v, e1, e2⟩ := r2.get e
  refine ⟨⟨vs, v, q2, e1⟩, fun x H3 y => ?_⟩
  obtain ⟨rfl, y⟩ := y
  have e3 := y vs q2
  rw [e1] at e3
  cases e3
  exact ⟨Ext.refl _, e2⟩
theorem walks_ref {K : PySem.W.Frag} {a : Addr} {n : Nat} {xs : List D} (q : ρ[n]? = some a) : Walks M F ρ H (Itl K a) xs (some n) := fun i ρ2 X2 H2 k s => by
  obtain ⟨b, vs, q1, q2, r2⟩ := s
  rw [k.pre n a q] at q1
  cases q1
  refine ⟨fun d e => ?_, fun hl => ⟨vs, .of q2, by rw [← r2.length]; exact hl⟩⟩
  obtain ⟨v, e1, e2⟩ := r2.get e
  refine ⟨⟨vs, v, .of q2, e1⟩, fun x H3 y => ?_⟩
  obtain ⟨rfl, y⟩ := y
  have e3 := y vs (.of q2)
  rw [e1] at e3
  cases e3
  exact ⟨Ext.refl _, e2⟩
theorem walks_rng {lo : Int} {n : Nat} {c : Int} : Walks M F ρ H (Itc lo c n) ((List.range n).map fun (k : Nat) => .int (lo + k * c)) none := fun i ρ2 X2 H2 k _ => by
  refine ⟨fun d e => ?_, fun hl => (by simpa using hl : n ≤ i)⟩
  simp only [List.getElem?_map, Option.map_eq_some_iff] at e
  obtain ⟨j, e1, rfl⟩ := e
  have hj := (List.getElem?_eq_some_iff.mp e1)
  obtain ⟨h1, h2⟩ := hj
  simp only [List.getElem_range] at h2
  subst h2
  refine ⟨(by simpa using h1 : i < n), fun x H3 y => ?_⟩
  obtain ⟨rfl, rfl⟩ := y
  exact ⟨Ext.refl _, .int _⟩
theorem walks_rng1 {lo : Int} {n : Nat} : Walks M F ρ H (Itr lo n) ((List.range n).map fun (k : Nat) => .int (lo + k)) none := fun i ρ2 X2 H2 k _ => by
  refine ⟨fun d e => ?_, fun hl => (by simpa using hl : n ≤ i)⟩
  simp only [List.getElem?_map, Option.map_eq_some_iff] at e
  obtain ⟨j, e1, rfl⟩ := e
  have hj := (List.getElem?_eq_some_iff.mp e1)
  obtain ⟨h1, h2⟩ := hj
  simp only [List.getElem_range] at h2
  subst h2
  refine ⟨(by simpa using h1 : i < n), fun x H3 y => ?_⟩
  obtain ⟨rfl, rfl⟩ := y
  exact ⟨Ext.refl _, .int _⟩
theorem walks_str {z : Str} (ok : PyData.strOk z = true) : Walks M F ρ H (Its z) (z.cps.toList.map fun c => .str ⟨#[c]⟩) none := fun i ρ2 X2 H2 k _ => by
  refine ⟨fun d e => ?_, fun hl => (by simpa using hl : z.cps.size ≤ i)⟩
  simp only [List.getElem?_map, Option.map_eq_some_iff] at e
  obtain ⟨j, e1, rfl⟩ := e
  obtain ⟨h1, h2⟩ := List.getElem?_eq_some_iff.mp e1
  refine ⟨(by simpa using h1 : i < z.cps.size), fun x H3 y => ?_⟩
  obtain ⟨rfl, c, y1, rfl⟩ := y
  have e2 : z.cps.toList[i]? = some c := by rw [Array.getElem?_toList]; exact y1
  rw [e1] at e2
  cases e2
  refine ⟨Ext.refl _, .str _ ?_⟩
  have hm := List.mem_of_getElem? e1
  unfold PyData.strOk at ok ⊢
  rw [Array.all_eq_true_iff_forall_mem] at ok
  simpa using ok j (by simpa using hm)
theorem walks_enum {K : PySem.W.Frag} {a : Addr} {vs : List V} {xs : List D} (q : H a = some (.lst vs)) (n : ¬ Xo F ρ a) (r : Rps0 M F ρ H xs vs) : Walks M F ρ H (Ite K a) (xs.zipIdx.map fun p => .tup [.int p.2, p.1]) none := fun i ρ2 X2 H2 k _ => by
  have q2 := (k.keep a _ q n).1
  have r2 := r.keep k
  refine ⟨fun d e => ?_, fun hl => ⟨vs, .of q2, by rw [← r.length]; simpa using hl⟩⟩
  simp only [List.getElem?_map, List.getElem?_zipIdx, Option.map_map, Option.map_eq_some_iff, Function.comp] at e
  obtain ⟨d, e, rfl⟩ := e
  obtain ⟨v, e1, e2⟩ := r2.get e
  refine ⟨⟨vs, v, .of q2, e1⟩, fun x H3 y => ?_⟩
  obtain ⟨T, x1, rfl, nT, rfl, y⟩ := y
  have e3 := y vs (.of q2)
  rw [e1] at e3
  cases e3
  have x := Ext.upd (o := .tup [.int (i : Nat), v]) nT
  refine ⟨x, .tup (.of upd_same) (.cons ?_ (.cons (e2.keep (x.kp _ _)) .nil))⟩
  simp only [Nat.zero_add]
  exact .int _
theorem walks_zipL {K : PySem.W.Frag} {a b : Addr} {vs us : List V} {xs ys : List D} (q : H a = some (.lst vs)) (n : ¬ Xo F ρ a) (r : Rps0 M F ρ H xs vs) (q' : H b = some (.lst us)) (n' : ¬ Xo F ρ b) (r' : Rps0 M F ρ H ys us) :
    Walks M F ρ H (Itz K a b) ((xs.zip ys).map fun p => .tup [p.1, p.2]) none := fun i ρ2 X2 H2 k _ => by
  have q2 := (k.keep a _ q n).1
  have r2 := r.keep k
  have q3 := (k.keep b _ q' n').1
  have r3 := r'.keep k
  refine ⟨fun d e => ?_, fun hl => ⟨vs, us, .of q2, .of q3, by
    rw [← r.length, ← r'.length]
    simp only [List.length_map, List.length_zip] at hl
    omega⟩⟩
  simp only [List.getElem?_map, Option.map_eq_some_iff] at e
  obtain ⟨p, e, rfl⟩ := e
  rw [List.getElem?_zip_eq_some] at e
  obtain ⟨v, e1, e2⟩ := r2.get e.1
  obtain ⟨u, e3, e4⟩ := r3.get e.2
  refine ⟨⟨vs, us, v, u, .of q2, .of q3, e1, e3⟩, fun x H3 y => ?_⟩
  obtain ⟨T, x1, x2, rfl, nT, rfl, y1, y2⟩ := y
  have e5 := y1 vs (.of q2)
  rw [e1] at e5
  cases e5
  have e6 := y2 us (.of q3)
  rw [e3] at e6
  cases e6
  have x := Ext.upd (o := .tup [v, u]) nT
  exact ⟨x, .tup (.of upd_same) (.cons (e2.keep (x.kp _ _)) (.cons (e4.keep (x.kp _ _)) .nil))⟩
theorem walks_zipT {a b : Addr} {vs us : List V} {xs ys : List D} (q : SqT M.K H a vs) (r : Rps0 M F ρ H xs vs) (q' : SqT M.K H b us) (r' : Rps0 M F ρ H ys us) :
    Walks M F ρ H (RZ.ItzT M.K a b) ((xs.zip ys).map fun p => .tup [p.1, p.2]) none := fun i ρ2 X2 H2 k _ => by
  have q2 := sqT_keep (M := M) k q
  have r2 := r.keep k
  have q3 := sqT_keep (M := M) k q'
  have r3 := r'.keep k
  refine ⟨fun d e => ?_, fun hl => ⟨vs, us, q2, q3, by
    rw [← r.length, ← r'.length]
    simp only [List.length_map, List.length_zip] at hl
    omega⟩⟩
  simp only [List.getElem?_map, Option.map_eq_some_iff] at e
  obtain ⟨p, e, rfl⟩ := e
  rw [List.getElem?_zip_eq_some] at e
  obtain ⟨v, e1, e2⟩ := r2.get e.1
  obtain ⟨u, e3, e4⟩ := r3.get e.2
  refine ⟨⟨vs, us, v, u, q2, q3, e1, e3⟩, fun x H3 y => ?_⟩
  obtain ⟨T, x1, x2, rfl, nT, rfl, y1, y2⟩ := y
  have e5 := y1 vs q2
  rw [e1] at e5
  cases e5
  have e6 := y2 us q3
  rw [e3] at e6
  cases e6
  have x := Ext.upd (o := .tup [v, u]) nT
  exact ⟨x, .tup (.of upd_same) (.cons (e2.keep (x.kp _ _)) (.cons (e4.keep (x.kp _ _)) .nil))⟩
end

section
variable {X : Cx} {M : Mo} {W : WX} {G : Ctx}
/-- a list, a tuple or a text, walked -/
theorem pi_any {tg l : Expr} {tl : TE} (hl : PE X l tl) : PI X tg l (fun σ H R => tl σ H fun x H1 => (∃ a xs, x = .ref a ∧ SqL X.K H1 a xs ∧ R (Itl X.K a) H1) ∨ (∃ a xs, x = .ref a ∧ SqT X.K H1 a xs ∧ R (Itt X.K a) H1) ∨ ∃ z, x = .str z ∧ R (Its z) H1) := by
  refine ⟨fun pins s σ H R I h => ?_⟩
  refine thn (hl.run pins s σ H _ I h) fun v s1 ⟨x, H1, I1, r1, q1⟩ => ?_
  rcases q1 with ⟨a, xs, rfl, hq, q⟩ | ⟨a, xs, rfl, hq, q⟩ | ⟨z, rfl, q⟩
  · cases r1
    obtain ⟨its, rv, p, hz⟩ := I1.list hq
    refine wpAny_pyIter_list p.isList ?_
    exact pi_one (tk := s1.toks) I1 _ (turn_list a _) ⟨_, Heap.get?_push_size _ rfl, rfl, rfl⟩ q
  · cases r1
    obtain ⟨its, rv, p, hz⟩ := I1.tuple hq
    refine wpAny_pyIter_tuple (show s1.heap.IsTuple a its.toArray from p) ?_
    exact pi_one (tk := s1.toks) I1 _ (turn_tuple a _) ⟨_, Heap.get?_push_size _ rfl, rfl, rfl⟩ q
  · obtain ⟨t, rfl⟩ := r1
    cases ha : z.cps.all (· < 128)
    · exact wpAny_pyIter_wide ha (pi_one (tk := s1.toks) I1 _ (turn_str _ z t "str_iterator" (.inr rfl)) ⟨_, Heap.get?_push_size _ rfl, rfl, rfl⟩ q)
    · exact wpAny_pyIter_ascii ha (pi_one (tk := s1.toks) I1 _ (turn_str _ z t "str_ascii_iterator" (.inl rfl)) ⟨_, Heap.get?_push_size _ rfl, rfl, rfl⟩ q)
section
variable {a b c tg : Expr} {ma mb mc : E} {pos p : Pos}
theorem AnsI.later {F : Addr → Prop} {ρ ρ1 : List Addr} {H H1 : Hp} {e : Env} {σ : L2.St} {o : Option OutI} {R : It → Hp → Prop} (s : Step ρ H ρ1 H1) (a : AnsI M W F ρ H e σ o R) : AnsI M W F ρ1 H1 e σ o R := by
  cases o with
  | none => exact a
  | some o => cases o with
    | ok ds src h' => exact fun J ρ' H' t p => a J ρ' H' (s.trans t) p
    | ex x h' => exact fun cls d ρ' H' t p => a cls d ρ' H' (s.trans t) p
/-- the first part of what is walked -/
theorem thnI {F : Addr → Prop} {ρ : List Addr} {H : Hp} {e : Env} {h : Sto} {σ : L2.St} {R : It → Hp → Prop} {Q : VK} {m : E} {k : D → Sto → Option OutI} (A : Ab0 M F ρ e h σ H) (a : AnsI M W F ρ H e σ (thenI (evE G m e h) k) R)
    (hk : ∀ d h1 v ρ1 H1, Step ρ H ρ1 H1 → Ab0 M F ρ1 e h1 σ H1 → Rp0 M F ρ1 H1 d v → AnsI M W F ρ1 H1 e σ (k d h1) R → Q v H1) : tE M W G m σ H Q := by
  refine ⟨F, ρ, e, h, A, ?_⟩
  cases q : evE G m e h with
  | none => rw [q] at a; exact a
  | some o => cases o with
    | ok r h1 =>
      rw [q] at a
      exact fun v ρ1 H1 s p => hk r.sh h1 v ρ1 H1 s p.sh.1 p.sh.2 (a.later s)
    | ex x h1 => rw [q] at a; exact a
theorem AnsI.now {F : Addr → Prop} {ρ : List Addr} {H : Hp} {e : Env} {h : Sto} {σ : L2.St} {R : It → Hp → Prop} {ds : List D} {src : Option Nat} {J : It} (A : Ab0 M F ρ e h σ H) (a : AnsI M W F ρ H e σ (some (.ok ds src h)) R) (w : Walks M F ρ H J ds src) : R J H := a J ρ H (Step.refl _ _) A w
theorem i_seq (g : Gd M W X) (ha : PE X a (tE M W G ma)) : PI X tg a (tI M W G (.iseq ma)) := (pi_any ha).impT fun σ H R ⟨F, ρ, e, h, A, an⟩ => by
  rw [evI] at an
  refine thnI A an fun d h1 v ρ1 H1 s A1 r1 a1 => ?_
  cases d <;> first | exact a1.elim | skip
  · obtain ⟨e0, ok⟩ := rp_str r1
    cases e0
    exact .inr (.inr ⟨_, rfl, a1.now A1 (walks_str ok)⟩)
  · obtain ⟨x, vs, rfl, t1, rs⟩ := rp_tup r1
    refine .inr (.inl ⟨x, vs, rfl, by rw [← g.hK]; exact t1, ?_⟩)
    rw [← g.hK]
    exact a1.now A1 (walks_tup t1 rs)
  · obtain ⟨x, vs, rfl, t1, n1, rs⟩ := rp_lst r1
    exact .inl ⟨x, vs, rfl, .of t1, a1.now A1 (walks_lst t1 n1 rs)⟩
  · obtain ⟨x, vs, rfl, t1, rs⟩ := rp_fz r1
    refine .inl ⟨x, vs, rfl, by rw [← g.hK]; exact t1.sql, ?_⟩
    rw [← g.hK]
    exact a1.now A1 (walks_fz t1 rs)
  · rename_i n
    obtain ⟨x, rfl, e1⟩ := rp_ref r1
    simp only [seqI] at a1
    split at a1
    · rename_i xs z
      obtain ⟨u, e2, e3⟩ := A1.at z e1
      cases e3
      exact .inl ⟨x, _, rfl, .of e2, a1.now A1 (walks_ref e1)⟩
    · exact a1.elim
theorem i_rng1 (g : Gd M W X) (hg : Gl X "range") (hm : X.mg "range" = none) (ha : PE X a (tE M W G ma)) (hs : starEach [a] X.env = [(false, eval a X.env)]) : PI X tg (.Call (.Name "range" p) [a] [] pos) (tI M W G (.irng1 ma)) :=
  (pi_range1 hg hm (pa_cons ha pa_nil hs) hs).impT fun σ H R ⟨F, ρ, e, h, A, an⟩ => by
    rw [evI] at an
    refine thnI A an fun d h1 v ρ1 H1 s A1 r1 a1 => ?_
    cases d <;> first | exact a1.elim | skip
    rename_i j
    simp only [rngI1] at a1
    split at a1
    · rename_i hz
      cases rp_int r1
      have w : Walks M F ρ1 H1 (Itr 0 j.toNat) ((List.range j.toNat).map fun (k : Nat) => .int (k : Int)) none := by
        have w := walks_rng1 (M := M) (F := F) (ρ := ρ1) (H := H1) (lo := 0) (n := j.toNat)
        simpa using w
      exact ⟨j, rfl, hz.1, hz.2, a1.now A1 w⟩
    · exact a1.elim
theorem i_rng2 (g : Gd M W X) (hg : Gl X "range") (hm : X.mg "range" = none) (ha : PE X a (tE M W G ma)) (hb : PE X b (tE M W G mb)) (hs1 : starEach [a, b] X.env = (false, eval a X.env) :: starEach [b] X.env) (hs : starEach [b] X.env = [(false, eval b X.env)]) :
    PI X tg (.Call (.Name "range" p) [a, b] [] pos) (tI M W G (.irng2 ma mb)) :=
  (pi_range2 hg hm (pa_cons ha (pa_cons hb pa_nil hs) hs1) (by rw [hs1, hs]) hs).impT fun σ H R ⟨F, ρ, e, h, A, an⟩ => by
    rw [evI] at an
    refine thnI A an fun d h1 v ρ1 H1 s A1 r1 a1 => thnI A1 a1 fun d2 h2 v2 ρ2 H2 s2 A2 r2 a2 => ?_
    have r1' := r1.keep (s2.kp (F := F))
    cases d <;> cases d2 <;> first | exact a2.elim | skip
    simp only [rngI2] at a2
    split at a2
    · rename_i hz
      cases rp_int r1
      cases rp_int r2
      exact ⟨_, _, rfl, hz, a2.now A2 walks_rng1⟩
    · exact a2.elim
theorem i_rng3 (g : Gd M W X) (hg : Gl X "range") (hm : X.mg "range" = none) (ha : PE X a (tE M W G ma)) (hb : PE X b (tE M W G mb)) (hc : PE X c (tE M W G mc)) (hs1 : starEach [a, b, c] X.env = (false, eval a X.env) :: starEach [b, c] X.env)
    (hs2 : starEach [b, c] X.env = (false, eval b X.env) :: starEach [c] X.env) (hs : starEach [c] X.env = [(false, eval c X.env)]) :
    PI X tg (.Call (.Name "range" p) [a, b, c] [] pos) (tI M W G (.irng3 ma mb mc)) :=
  (pi_range3 hg hm (pa_cons ha (pa_cons hb (pa_cons hc pa_nil hs) hs2) hs1) hs1 (by rw [hs2, hs]; rfl)).impT fun σ H R ⟨F, ρ, e, h, A, an⟩ => by
    rw [evI] at an
    refine thnI A an fun d h1 v ρ1 H1 s A1 r1 a1 => thnI A1 a1 fun d2 h2 v2 ρ2 H2 s2 A2 r2 a2 => thnI A2 a2 fun d3 h3 v3 ρ3 H3 s3 A3 r3 a3 => ?_
    cases d <;> cases d2 <;> cases d3 <;> first | exact a3.elim | skip
    simp only [rngI3] at a3
    split at a3
    · rename_i hz
      cases rp_int r1
      cases rp_int r2
      cases rp_int r3
      exact ⟨_, _, _, _, rfl, ⟨hz.1, hz.2.1, hz.2.2.1, (Int.toNat_of_nonneg hz.2.2.2).symm⟩, a3.now A3 walks_rng⟩
    · exact a3.elim
theorem i_enum (g : Gd M W X) {elts : List Expr} {kk : Nat} {tpos : Pos} (hg : Gl X "enumerate") (hm : X.mg "enumerate" = none) (ha : PE X a (tE M W G ma)) (hs : starEach [a] X.env = [(false, eval a X.env)]) :
    PI X (.Tuple elts kk tpos) (.Call (.Name "enumerate" p) [a] [] pos) (tI M W G (.ienum ma)) :=
  (pi_enum hg hm (pa_cons ha pa_nil hs) hs).impT fun σ H R ⟨F, ρ, e, h, A, an⟩ => by
    rw [evI] at an
    refine thnI A an fun d h1 v ρ1 H1 s A1 r1 a1 => ?_
    cases d <;> first | exact a1.elim | skip
    obtain ⟨x, vs, rfl, t1, n1, rs⟩ := rp_lst r1
    exact ⟨x, vs, rfl, .of t1, a1.now A1 (walks_enum t1 n1 rs)⟩
theorem i_zip (g : Gd M W X) {elts : List Expr} {kk : Nat} {tpos : Pos} (hg : Gl X "zip") (hm : X.mg "zip" = none) (ha : PE X a (tE M W G ma)) (hb : PE X b (tE M W G mb)) (hs1 : starEach [a, b] X.env = (false, eval a X.env) :: starEach [b] X.env) (hs : starEach [b] X.env = [(false, eval b X.env)]) :
    PI X (.Tuple elts kk tpos) (.Call (.Name "zip" p) [a, b] [] pos) (tI M W G (.izip ma mb)) :=
  (RZ.pi_zipA hg hm (pa_cons ha (pa_cons hb pa_nil hs) hs1) hs1 (by rw [hs]; rfl)).impT fun σ H R ⟨F, ρ, e, h, A, an⟩ => by
    rw [evI] at an
    refine thnI A an fun d h1 v ρ1 H1 s A1 r1 a1 => thnI A1 a1 fun d2 h2 v2 ρ2 H2 s2 A2 r2 a2 => ?_
    have r1' := r1.keep (s2.kp (F := F))
    cases d <;> cases d2 <;> first | exact a2.elim | skip
    · obtain ⟨x, vs, rfl, t1, rs⟩ := rp_tup r1'
      obtain ⟨y, us, rfl, t2, rs'⟩ := rp_tup r2
      have t1' := t1
      have t2' := t2
      rw [g.hK] at t1' t2'
      refine ⟨x, y, vs, us, rfl, .inr ⟨t1', t2', ?_⟩⟩
      rw [← g.hK]
      exact a2.now A2 (walks_zipT t1 rs t2 rs')
    · obtain ⟨x, vs, rfl, t1, n1, rs⟩ := rp_lst r1'
      obtain ⟨y, us, rfl, t2, n2, rs'⟩ := rp_lst r2
      exact ⟨x, y, vs, us, rfl, .inl ⟨.of t1, .of t2, a2.now A2 (walks_zipL t1 n1 rs t2 n2 rs')⟩⟩
end
end
end Tc

/-! Tc: comprehensions. -/
namespace Tc
open PySem L2
section
variable {M : Mo} {F : Addr → Prop} {ρ ρ' ρ1 ρ2 : List Addr} {X1 X2 X3 : Addr → Prop} {H H' H1 H2 H3 : Hp} {e : Env} {h h' : Sto} {σ : L2.St}
theorem Ab.wipe {X : Addr → Prop} (A : Ab M ρ X e h σ H) : ∀ vs : List Nat, Ab M ρ X (wipeE e vs) h (L2.wipe σ vs) H
  | [] => A
  | v :: vs => by
    unfold wipeE L2.wipe
    exact (Ab.wipe A vs).clrEnv
theorem Kp.to (k : Kp ρ ρ' X1 X2 H H') (hx : ∀ a, X3 a → X2 a) : Kp ρ ρ' X1 X3 H H' := k.trans (Kp.less H' ρ' hx)
theorem two_shut {D : Addr} {a : Addr} : Xo (fun b => b = D ∨ F b) ρ a → a = D ∨ Xo F ρ a := fun z => by
  rcases z with z | z | z
  · exact .inr (.inl z)
  · exact .inl z
  · exact .inr (.inr z)
theorem two_shut' {D : Addr} {a : Addr} : (a = D ∨ Xo F ρ a) → Xo (fun b => b = D ∨ F b) ρ a := fun z => by
  rcases z with z | z | z
  · exact .inr (.inl z)
  · exact .inl z
  · exact .inr (.inr z)
end
abbrev W0 : WX := fun _ _ _ _ => False
section
variable {X : Cx} {M : Mo} {W : WX} {G : Ctx}
def ttO (M : Mo) (G : Ctx) : Option E → TT
  | none => tYes
  | some m => eT M W0 G m
theorem ttO_none : ttO M G none = tYes := rfl
theorem ttO_some {m : E} : ttO M G (some m) = eT M W0 G m := rfl
theorem set_wipe {σ : L2.St} {i : Nat} : ∀ {vs : List Nat}, L2.wipe (σ.set i none) vs = (L2.wipe σ vs).set i none
  | [] => rfl
  | v :: vs => by
    unfold L2.wipe
    rw [set_wipe]
    by_cases hv : i = v
    · subst hv; rfl
    · rw [List.set_comm _ _ hv]
theorem wipe_wipe {σ : L2.St} : ∀ {vs : List Nat}, L2.wipe (L2.wipe σ vs) vs = L2.wipe σ vs
  | [] => rfl
  | v :: vs => by
    show (L2.wipe ((L2.wipe σ vs).set v none) vs).set v none = (L2.wipe σ vs).set v none
    rw [set_wipe, wipe_wipe, List.set_set]
theorem lcTurn_ok {t : T} {e : Env} {c : Option E} {elt : E} {d : D} {h h3 : Sto} {y : Option D} (q : lcTurn t e (c.map (evE G)) (evE G elt) d h = some (y, h3)) : ∃ e1, bindT t d e h = some e1 ∧
    ((c = none ∧ ∃ r, evE G elt e1 h = some (.ok r h3) ∧ y = some r.sh) ∨
     ∃ mc, c = some mc ∧ ((∃ h2 r, evE G mc e1 h = some (.ok (.d (.bl true)) h2) ∧ evE G elt e1 h2 = some (.ok r h3) ∧ y = some r.sh) ∨ (evE G mc e1 h = some (.ok (.d (.bl false)) h3) ∧ y = none))) := by
  unfold lcTurn at q
  cases hb : bindT t d e h with
  | none => rw [hb] at q; cases q
  | some e1 =>
    rw [hb] at q
    refine ⟨e1, rfl, ?_⟩
    cases c with
    | none =>
      simp only [Option.map_none] at q
      split at q
      · rename_i r h1 hr
        cases q
        exact .inl ⟨rfl, r, hr, rfl⟩
      · cases q
    | some mc =>
      simp only [Option.map_some] at q
      refine .inr ⟨mc, rfl, ?_⟩
      split at q
      · rename_i h1 hc
        split at q
        · rename_i r h2 hr
          cases q
          exact .inl ⟨h1, r, hc, hr, rfl⟩
        · cases q
      · rename_i h1 hc
        cases q
        exact .inr ⟨hc, rfl⟩
      · cases q
theorem lc_core' {F : Addr → Prop} {ρ1 : List Addr} {H H1 : Hp} {e : Env} {h1 h2 : Sto} {σ : L2.St} {t : T} {c : Option E} {elt : E} {vs : List Nat} {ds ys : List D} {J : It} {Q : VK} (hv : ∀ i ∈ t.slots, i ∈ vs)
    (A1 : Ab0 M F ρ1 e h1 σ H1) (w : Walks M F ρ1 H1 J ds none) (hz : ds.length ≤ 1000000) (z : lcL (lcTurn t (wipeE e vs) (c.map (evE G)) (evE G elt)) ds h1 = some (ys, h2))
    (hback : ∀ a, H1 a = none → H a = none) (fin : ∀ v ρ' H', Step ρ1 H1 ρ' H' → PostR M F H ρ' H' e h2 σ (.tl ys) v → Q v H') : ∀ D, H1 D = none → ∃ W : Nat → Nat → Hp → Prop, (∃ m, W 0 m (upd H1 D (.lst []))) ∧ ∀ i m H, W i m H →
  (J.stop i H ∧ Q (.ref D) H) ∨ (J.go i H ∧ ∃ Nx : Hp → Prop, (∀ H', Nx H' → ∃ m', m' < m ∧ W (i + 1) m' H') ∧ ∀ x H', J.yld i H x H' → gT M t x (L2.wipe σ vs) H' fun σ2 H2 => L2.wipe σ2 vs = L2.wipe σ vs ∧ ttO M G c σ2 H2 fun b H3 =>
    if b = true then tE M W0 G elt σ2 H3 fun y H4 => ∃ acc, H4 D = some (.lst acc) ∧ acc.length < sizeLine ∧ Nx (upd H4 D (.lst (acc ++ [y]))) else Nx H3) := by
  intro D hD
  have nD : ¬ Xo F ρ1 D := A1.notin hD
  refine ⟨fun i m Hc => ∃ ρc hc accD accV rest, m = ds.length - i ∧ i ≤ ds.length ∧ Step ρ1 H1 ρc Hc ∧ Kp ρ1 ρc (Xo F ρ1) (Xo (fun b => b = D ∨ F b) ρc) H1 Hc ∧ D ∉ ρc ∧ Ab0 M (fun b => b = D ∨ F b) ρc (wipeE e vs) hc (L2.wipe σ vs) Hc ∧
      Hc D = some (.lst accV) ∧ Rps0 M (fun b => b = D ∨ F b) ρc Hc accD accV ∧ accD.length ≤ i ∧ lcL (lcTurn t (wipeE e vs) (c.map (evE G)) (evE G elt)) (ds.drop i) hc = some (rest, h2) ∧ ys = accD ++ rest, ⟨ds.length, ?_⟩, ?_⟩
  · have x := Ext.upd (o := .lst []) hD
    refine ⟨ρ1, h1, [], [], ys, by simp, Nat.zero_le _, x.step ρ1, (x.kpx hD ρ1 _).to fun a z => two_shut z, fun z => nD (.inl z), ((A1.shut x hD upd_same).less fun a z => two_shut z).wipe vs, upd_same, .nil, Nat.le_refl _, by simpa using z, by simp⟩
  rintro i m Hc ⟨ρc, hc, accD, accV, rest, rfl, hi, sc, kc, nDc, Ac, qD, rD, hl, zc, hy⟩
  by_cases hlt : i < ds.length
  · have hd : ds[i]? = some ds[i] := List.getElem?_eq_getElem hlt
    rw [List.drop_eq_getElem_cons hlt, lcL] at zc
    have wk := (w i ρc _ Hc kc trivial).1 ds[i] hd
    refine .inr ⟨wk.1, fun Hn => ∃ ρc hc accD accV rest, i + 1 ≤ ds.length ∧ Step ρ1 H1 ρc Hn ∧ Kp ρ1 ρc (Xo F ρ1) (Xo (fun b => b = D ∨ F b) ρc) H1 Hn ∧ D ∉ ρc ∧ Ab0 M (fun b => b = D ∨ F b) ρc (wipeE e vs) hc (L2.wipe σ vs) Hn ∧
      Hn D = some (.lst accV) ∧ Rps0 M (fun b => b = D ∨ F b) ρc Hn accD accV ∧ accD.length ≤ i + 1 ∧ lcL (lcTurn t (wipeE e vs) (c.map (evE G)) (evE G elt)) (ds.drop (i + 1)) hc = some (rest, h2) ∧ ys = accD ++ rest, fun Hn ⟨a1, a2, a3, a4, a5, a6, a7⟩ => ⟨ds.length - (i + 1), by omega, a1, a2, a3, a4, a5, rfl, a6, a7⟩, fun x H' y => ?_⟩
    obtain ⟨xx, rx⟩ := wk.2 x H' y
    cases q1 : lcTurn t (wipeE e vs) (c.map (evE G)) (evE G elt) ds[i] hc with
    | none => rw [q1] at zc; cases zc
    | some p =>
      obtain ⟨yo, h3⟩ := p
      rw [q1] at zc
      obtain ⟨e1, hb, alt⟩ := lcTurn_ok q1
      -- behind an element
      have put : ∀ {ρa ρ4 : List Addr} {Ha H4 : Hp} {e1 : Env} {σ' : L2.St} {h3 : Sto} {d : Tc.D} {v : V} {rest' : List Tc.D}, Step ρc Hc ρa Ha → Step ρa Ha ρ4 H4 → Ab0 M (fun b => b = D ∨ F b) ρ4 e1 h3 σ' H4 → Rp0 M (fun b => b = D ∨ F b) ρ4 H4 d v →
          lcL (lcTurn t (wipeE e vs) (c.map (evE G)) (evE G elt)) (ds.drop (i + 1)) h3 = some (rest', h2) → rest = d :: rest' → ∃ acc, H4 D = some (.lst acc) ∧ acc.length < sizeLine ∧ ∃ ρc hc accD accV rest, i + 1 ≤ ds.length ∧ Step ρ1 H1 ρc (upd H4 D (.lst (acc ++ [v]))) ∧ Kp ρ1 ρc (Xo F ρ1) (Xo (fun b => b = D ∨ F b) ρc) H1 (upd H4 D (.lst (acc ++ [v]))) ∧ D ∉ ρc ∧ Ab0 M (fun b => b = D ∨ F b) ρc (wipeE e vs) hc (L2.wipe σ vs) (upd H4 D (.lst (acc ++ [v]))) ∧
            (upd H4 D (.lst (acc ++ [v]))) D = some (.lst accV) ∧ Rps0 M (fun b => b = D ∨ F b) ρc (upd H4 D (.lst (acc ++ [v]))) accD accV ∧ accD.length ≤ i + 1 ∧ lcL (lcTurn t (wipeE e vs) (c.map (evE G)) (evE G elt)) (ds.drop (i + 1)) hc = some (rest, h2) ∧ ys = accD ++ rest := by
        intro ρa ρ4 Ha H4 e1 σ' h3 d v rest' sa s4 A4 r4 z4 er
        have s14 := sa.trans s4
        have qD4 : H4 D = some (.lst accV) := s14.keep D _ qD nDc
        have nD4 : D ∉ ρ4 := fun m => by
          rcases s14.new D m with m | m
          · exact nDc m
          · rw [m] at qD; cases qD
        have k4 : Kp ρc ρ4 (Xo (fun b => b = D ∨ F b) ρc) (Xo (fun b => b = D ∨ F b) ρ4) Hc H4 := s14.kp
        have k5 : Kp ρ4 ρ4 (Xo (fun b => b = D ∨ F b) ρ4) (Xo (fun b => b = D ∨ F b) ρ4) H4 (upd H4 D (.lst (accV ++ [v]))) :=
          ⟨fun _ _ e => e, fun b xs e => by rw [upd_ne (ne_of e qD4 (fun z => by cases z))]; exact e, fun b o u e => by rw [upd_ne (ne_of e qD4 (fun z => by cases z))]; exact e, fun b u e n => ⟨by
            rw [upd_ne (fun z => n (.inr (.inl z)))]; exact e, n⟩⟩
        have k15 := (kc.trans k4).trans k5
        have bk : ∀ b, upd H4 D (.lst (accV ++ [v])) b = none → H4 b = none := fun b e => by
          by_cases hb : b = D
          · subst hb; rw [upd_same] at e; cases e
          · rw [upd_ne hb] at e; exact e
        have sl : sizeLine = 16777216 := sizeLine_eq
        refine ⟨accV, qD4, by rw [← rD.length]; omega, ρ4, h3, accD ++ [d], accV ++ [v], rest', hlt, ⟨k15.pre, fun a m => (sc.trans s14).new a m, fun a u e n => ?_, fun a xs e => k15.tups a xs e, fun a o u e => k15.frzs a o u e, fun a e => (sc.trans s14).back a (bk a e)⟩, k15, nD4, ?_, upd_same, (rD.keep (k4.trans k5)).append (.cons (r4.keep k5) .nil), by rw [List.length_append, List.length_singleton]; omega, z4, by rw [hy, er, List.append_assoc]; rfl⟩
        · rw [upd_ne (ne_of_none e hD)]
          exact (sc.trans s14).keep a u e n
        · refine Ac.reenv (k4.trans k5) (e' := e1) (σ' := σ') ⟨A4.hl, A4.nd, fun n o q => ?_, A4.el, fun j d q => ?_, fun b m => ?_⟩
          · obtain ⟨b, u, b1, b2, b3⟩ := A4.ob n o q
            refine ⟨b, u, b1, ?_, b3.keep k5⟩
            rw [upd_ne (fun z => by subst z; exact nD4 (List.mem_of_getElem? b1))]; exact b2
          · obtain ⟨u, b1, b2⟩ := A4.env j d q
            exact ⟨u, b1, b2.keep k5⟩
          · obtain ⟨u, b1⟩ := A4.fx b m
            by_cases hb : b = D
            · subst hb; exact ⟨_, upd_same⟩
            · exact ⟨u, by rw [upd_ne hb]; exact b1⟩
      refine ⟨_, ρc, wipeE e vs, hc, ds[i], e1, Ac.grow xx, rx, hb, fun σ' A' wp => ⟨(wp vs hv).trans wipe_wipe, ?_⟩⟩
      have sx := xx.step ρc
      rcases alt with ⟨rfl, r, hr, rfl⟩ | ⟨mc, rfl, ⟨h5, r, hc1, hr, rfl⟩ | ⟨hc1, rfl⟩⟩
      · -- no test
        simp only at zc
        split at zc
        · rename_i ys' h2' z4
          cases zc
          rw [ttO_none]
          unfold tYes
          dsimp only
          rw [if_pos rfl]
          refine ⟨_, ρc, e1, hc, A', ?_⟩
          rw [hr]
          intro v ρ4 H4 s4 p4
          exact put sx s4 p4.sh.1 p4.sh.2 z4 rfl
        · cases zc
      · simp only at zc
        split at zc
        · rename_i ys' h2' z4
          cases zc
          rw [ttO_some]
          refine ⟨_, ρc, e1, hc, A', ?_⟩
          rw [hc1]
          intro v ρ4 H4 s4 p4
          cases rp_bl p4.2
          refine ⟨true, rfl, iteT ?_⟩
          refine ⟨_, ρ4, e1, h5, p4.1, ?_⟩
          rw [hr]
          intro v5 ρ5 H5 s5 p5
          exact put (sx.trans s4) s5 p5.sh.1 p5.sh.2 z4 rfl
        · cases zc
      · simp only at zc
        rw [ttO_some]
        refine ⟨_, ρc, e1, hc, A', ?_⟩
        rw [hc1]
        intro v ρ4 H4 s4 p4
        cases rp_bl p4.2
        refine ⟨false, rfl, iteF ?_⟩
        have s14 := sx.trans s4
        have k4 : Kp ρc ρ4 (Xo (fun b => b = D ∨ F b) ρc) (Xo (fun b => b = D ∨ F b) ρ4) Hc H4 := s14.kp
        have nD4 : D ∉ ρ4 := fun m => by
          rcases s14.new D m with m | m
          · exact nDc m
          · rw [m] at qD; cases qD
        exact ⟨ρ4, h3, accD, accV, rest, hlt, sc.trans s14, kc.trans k4, nD4, Ac.reenv k4 p4.1, s14.keep D _ qD nDc, rD.keep k4, Nat.le_succ_of_le hl, zc, hy⟩
  · have hi' : i = ds.length := by omega
    subst hi'
    refine .inl ⟨(w _ ρc _ Hc kc trivial).2 (Nat.le_refl _), ?_⟩
    rw [List.drop_length, lcL] at zc
    cases zc
    rw [List.append_nil] at hy
    subst hy
    have B := Ac.less fun a z => two_shut' (F := F) (ρ := ρc) (D := D) z
    exact fin _ ρc Hc sc ⟨D, accV, rfl, hback D hD, fun z => by
      rcases z with z | z
      · exact nDc z
      · exact nD (.inr z), qD, A1.reenv (kc.to fun a z => two_shut' z) B, rD.keep (Kp.less _ _ fun a z => two_shut' z)⟩
theorem lc_read {σ : L2.St} {H : Hp} {Q : VK} {vs : List Nat} {t : T} {it elt : E} (hv : ∀ i ∈ t.slots, i ∈ vs) (q : tE M W G (.lc vs t it elt) σ H Q) : tLc (tI M W G it) (gT M t) tYes (tE M W0 G elt) vs σ H Q := by
  obtain ⟨F, ρ, e, h, A, a⟩ := q
  rw [evE] at a
  refine ⟨F, ρ, e, h, A, ?_⟩
  cases q : evI G it e h with
  | none => rw [q] at a; exact a.elim
  | some o => cases o with
    | ex x h1 => rw [q] at a; exact a.elim
    | ok ds src h1 =>
      cases src with
      | some n => rw [q] at a; exact a.elim
      | none =>
        rw [q] at a
        simp only at a
        split at a
        · rename_i hz
          intro J ρ1 H1 s1 A1 w
          split at a
          · rename_i ys h2 z
            exact lc_core' (c := none) hv A1 w hz z s1.back fun v ρ' H' s p => a v ρ' H' (s1.trans s) p
          · exact a.elim
        · exact a.elim
theorem lcc_read {σ : L2.St} {H : Hp} {Q : VK} {vs : List Nat} {t : T} {it mc elt : E} (hv : ∀ i ∈ t.slots, i ∈ vs) (q : tE M W G (.lcc vs t it mc elt) σ H Q) : tLc (tI M W G it) (gT M t) (eT M W0 G mc) (tE M W0 G elt) vs σ H Q := by
  obtain ⟨F, ρ, e, h, A, a⟩ := q
  rw [evE] at a
  refine ⟨F, ρ, e, h, A, ?_⟩
  cases q : evI G it e h with
  | none => rw [q] at a; exact a.elim
  | some o => cases o with
    | ex x h1 => rw [q] at a; exact a.elim
    | ok ds src h1 =>
      cases src with
      | some n => rw [q] at a; exact a.elim
      | none =>
        rw [q] at a
        simp only at a
        split at a
        · rename_i hz
          intro J ρ1 H1 s1 A1 w
          split at a
          · rename_i ys h2 z
            exact lc_core' (c := some mc) hv A1 w hz z s1.back fun v ρ' H' s p => a v ρ' H' (s1.trans s) p
          · exact a.elim
        · exact a.elim
end
end Tc

/-! Tc: statements. -/
namespace Tc
open PySem L2
section
variable {X : Cx} {M : Mo} {W : WX} {G : Ctx} {F : Addr → Prop} {ρ : List Addr} {H : Hp} {e : Env} {h : Sto} {σ : L2.St}
theorem AnsF.bind {o : Option Fl} {k : Env → Sto → Option Fl} {D D' : Ends} (a : AnsF M W F ρ H (thenF o k) D) (hr : D'.rt = D.rt)
    (hk : ∀ e h σ' ρ' H', Step ρ H ρ' H' → Ab0 M F ρ' e h σ' H' → AnsF M W F ρ' H' (k e h) D → D'.nx σ' H') : AnsF M W F ρ H o D' := by
  cases o with
  | none => exact a
  | some o => cases o with
    | nx e h => exact fun σ' ρ' H' s A => hk e h σ' ρ' H' s A (AnsF.later s a)
    | rt r h => exact fun v ρ' H' s p => by rw [hr]; exact a v ρ' H' s p
    | ex x e h => exact a
/-- the value ahead -/
theorem AnsF.val {m : E} {k : R → Sto → Option Fl} {D : Ends} {Q : VK} (a : AnsF M W F ρ H (valF (evE G m e h) e k) D)
    (hk : ∀ r h1 v ρ1 H1, Step ρ H ρ1 H1 → PostR M F H ρ1 H1 e h1 σ r v → AnsF M W F ρ H (k r h1) D → Q v H1) : AnsE M W F ρ H e σ (evE G m e h) Q := by
  cases q : evE G m e h with
  | none => rw [q] at a; exact a
  | some o => cases o with
    | ok r h1 => rw [q] at a; exact fun v ρ1 H1 s p => hk r h1 v ρ1 H1 s p a
    | ex x h1 => rw [q] at a; exact fun cls d ρ' H' s A r => a cls d σ ρ' H' s A r
theorem AnsF.bool {m : E} {k : Bool → Sto → Option Fl} {D : Ends} {Q : Bool → Hp → Prop} (a : AnsF M W F ρ H (boolF (evE G m e h) e k) D)
    (hk : ∀ b h1 ρ1 H1, Step ρ H ρ1 H1 → Ab0 M F ρ1 e h1 σ H1 → AnsF M W F ρ1 H1 (k b h1) D → Q b H1) : AnsE M W F ρ H e σ (evE G m e h) (fun v H1 => ∃ b, v = .bl b ∧ Q b H1) := by
  cases q : evE G m e h with
  | none => rw [q] at a; exact a
  | some o => cases o with
    | ex x h1 => rw [q] at a; exact fun cls d ρ' H' s A r => a cls d σ ρ' H' s A r
    | ok r h1 =>
      rw [q] at a
      cases r with
      | tl _ => exact a.elim
      | td _ => exact a.elim
      | d d =>
        cases d <;> first | exact a.elim | skip
        rename_i b
        exact fun v ρ1 H1 s p => ⟨b, rp_bl p.2, hk b h1 ρ1 H1 s p.1 (AnsF.later s a)⟩
section
variable {a b c : Expr} {ma mb mc : E} {pos : Pos} {sa sb : S} {st : Stmt} {sts : List Stmt}
theorem s_nil : PSs X [] (tS M W G .nil) := pss_nil.impT fun D σ H ⟨F, ρ, e, h, A, a⟩ => by
  rw [exS] at a
  exact a σ ρ H (Step.refl _ _) A
theorem s_cons (h1 : PS X st (tS M W G sa)) (h2 : PSs X sts (tS M W G sb)) : PSs X (st :: sts) (tS M W G (.cons sa sb)) := (pss_cons h1 h2).impT fun D σ H ⟨F, ρ, e, h, A, a⟩ => by
  rw [exS] at a
  exact ⟨F, ρ, e, h, A, a.bind (D' := { D with nx := tS M W G sb D }) rfl fun e1 h1 σ' ρ' H' s A' a' => ⟨F, ρ', e1, h1, A', a'⟩⟩
theorem s_pass : PS X (.Pass pos) (tS M W G .pass) := ps_pass.impT fun D σ H ⟨F, ρ, e, h, A, a⟩ => by
  rw [exS] at a
  exact a σ ρ H (Step.refl _ _) A
theorem s_retn : PS X (.Return none pos) (tS M W G .retn) := ps_retN.impT fun D σ H ⟨F, ρ, e, h, A, a⟩ => by
  rw [exS] at a
  exact a .non ρ H (Step.refl _ _) ⟨A.noenv, .non⟩
theorem s_ret (ha : PE X a (tE M W G ma)) : PS X (.Return (some a) pos) (tS M W G (.ret ma)) := (ps_ret ha).impT fun D σ H ⟨F, ρ, e, h, A, a⟩ => by
  rw [exS] at a
  exact ⟨F, ρ, e, h, A, a.val fun r h1 v ρ1 H1 s p a' => a' v ρ1 H1 s p.noenv⟩
theorem s_expr (ha : PE X a (tE M W G ma)) (hs : swapsWith a none pos.line X.env = pure false) : PS X (.Expr a pos) (tS M W G (.expr ma)) := (ps_expr ha hs).impT fun D σ H ⟨F, ρ, e, h, A, a⟩ => by
  rw [exS] at a
  exact ⟨F, ρ, e, h, A, a.val fun r h1 v ρ1 H1 s p a' => a' σ ρ1 H1 s p.sh.1⟩
theorem s_if {xs ys : List Stmt} (hc : PT X a (eT M W G ma)) (h1 : PSs X xs (tS M W G sa)) (h2 : PSs X ys (tS M W G sb)) : PS X (.If a xs ys pos) (tS M W G (.ifs ma sa sb)) := (ps_if hc h1 h2).impT fun D σ H ⟨F, ρ, e, h, A, a⟩ => by
  rw [exS] at a
  refine ⟨F, ρ, e, h, A, a.bool fun b h1 ρ1 H1 s A1 a1 => ?_⟩
  cases b with
  | true => exact iteT ⟨F, ρ1, e, h1, A1, a1⟩
  | false => exact iteF ⟨F, ρ1, e, h1, A1, a1⟩
/-! ### assignments -/
theorem set_v {t : T} {i : Nat} {ma : E} (ht : t = .v i ∨ t = .m i) {D : Ends} (q : tS M W G (.set t ma) D σ H) : tE M W G ma σ H fun x H1 => D.nx (σ.set i (some x)) H1 := by
  obtain ⟨F, ρ, e, h, A, a⟩ := q
  rw [exS] at a
  refine ⟨F, ρ, e, h, A, a.val fun r h1 v ρ1 H1 s p a' => ?_⟩
  have plain : setT t r e h1 = some (.nx (e.set i (some r.sh)) h1) → D.nx (σ.set i (some v)) H1 := fun z => by
    rw [z] at a'
    exact a' _ ρ1 H1 s (p.sh.1.setEnv p.sh.2)
  rcases ht with rfl | rfl
  · exact plain (by cases r <;> rfl)
  · cases r with
    | d d => exact plain rfl
    | tl xs =>
      obtain ⟨x, vs, rfl, n, nx, q, B, rs⟩ := p
      have J := B.join nx q (.lst rs)
      refine a' _ (ρ1 ++ [x]) H1 (s.join n) (J.setEnv (.ref ?_))
      rw [B.hl, List.getElem?_append_right (Nat.le_refl _), Nat.sub_self]
      rfl
    | td xs =>
      obtain ⟨x, vs, rfl, n, nx, q, B, rs⟩ := p
      have J := B.join nx q (.dct rs)
      refine a' _ (ρ1 ++ [x]) H1 (s.join n) (J.setEnv (.ref ?_))
      rw [B.hl, List.getElem?_append_right (Nat.le_refl _), Nat.sub_self]
      rfl
theorem s_set {t : T} {i : Nat} {x : Str} {p2 : Pos} (g : Gd M W X) (ht : t = .v i ∨ t = .m i) (hi : X.N[i]? = some x) (hx : Loc X.env.scope x) (ha : PE X a (tE M W G ma)) (hs : swapsWith a (some (.Name x p2)) pos.line X.env = pure false) (hf : X.fn x = true ∨ X.env.scope.names.lookup x = some .local) :
    PS X (.Assign [.Name x p2] a pos) (tS M W G (.set t ma)) := (ps_set g.nd hi hx ha hs hf).impT fun D σ H q => set_v ht q
theorem s_setLc {t : T} {i : Nat} {x : Str} {elt tg iter : Expr} {ifs : List Expr} {scope : Scope} {own : List (Str × Nat)} {p2 lp spos : Pos} {wi : TI} {gg : TG} {tt : TT} {te : TE} (g : Gd M W X) (ht : t = .v i ∨ t = .m i) (hi : X.N[i]? = some x) (hx : X.env.scope.names.lookup x = some .local)
    (hsw : swapsWith (.ListComp elt [⟨tg, iter, ifs, 0⟩] scope lp) (some (.Name x p2)) spos.line X.env = pure true) (hp : PI X tg iter wi) (ok : BlkOk X.N X.env.scope scope own)
    (hg : ∀ (s : Shared) (H : Hp) (C : Addr) (cl : List (Str × Addr)) (fp : List Addr), PG (X.blk s H scope (compEnvC scope cl C X.env) fp) tg gg) (htt : ∀ (s : Shared) (H : Hp) (C : Addr) (cl : List (Str × Addr)) (fp : List Addr), PTs (X.blk s H scope (compEnvC scope cl C X.env) fp) ifs tt)
    (he : ∀ (s : Shared) (H : Hp) (C : Addr) (cl : List (Str × Addr)) (fp : List Addr), PE (X.blk s H scope (compEnvC scope cl C X.env) fp) elt te) (hfs : ∀ x, foldedSetIterable iter X.env x = pure x) (hr : ∀ σ H Q, tE M W G ma σ H Q → tLc wi gg tt te (own.map (·.2)) σ H Q) :
    PS X (.Assign [.Name x p2] (.ListComp elt [⟨tg, iter, ifs, 0⟩] scope lp) spos) (tS M W G (.set t ma)) := (ps_setLc g.calm g.nd hi hx hsw hp ok hg htt he hfs).impT fun D σ H q => hr σ H _ (set_v ht q)
theorem s_setT {t : T} {tg : Expr} (ht : ∀ r e h, setT t r e h = (bindT t r.sh e h).map fun e1 => .nx e1 h) (ha : PE X a (tE M W G ma)) (hg : PG X tg (gT M t)) (hs : swapsWithSole [tg] a pos.line X.env = pure false) (hw : swappedStores [tg] a X.env = pure none)
    (h1 : (assignEach [tg] X.env).map (·.2) = [assign tg X.env]) : PS X (.Assign [tg] a pos) (tS M W G (.set t ma)) := (ps_asg ha hg hs hw h1).impT fun D σ H ⟨F, ρ, e, h, A, a⟩ => by
  rw [exS] at a
  refine ⟨F, ρ, e, h, A, a.val fun r h1 v ρ1 H1 s p a' => ?_⟩
  rw [ht] at a'
  cases q : bindT t r.sh e h1 with
  | none => rw [q] at a'; exact a'.elim
  | some e1 =>
    rw [q] at a'
    exact ⟨F, ρ1, e, h1, r.sh, e1, p.sh.1, p.sh.2, q, fun σ' A' _ => a' σ' ρ1 H1 s A'⟩
theorem s_par {i j : Nat} {x y : Str} {px py pt : Pos} {kt k2 : Nat} {pt2 : Pos} (g : Gd M W X) (hi : X.N[i]? = some x) (hj : X.N[j]? = some y) (hij : i ≠ j) (hx : X.env.scope.names.lookup x = some .local) (hy : X.env.scope.names.lookup y = some .local)
    (ha : PE X a (tE M W G ma)) (hb : PE X b (tE M W G mb)) (hs1 : starEach [a, b] X.env = (false, eval a X.env) :: starEach [b] X.env) (hs2 : starEach [b] X.env = [(false, eval b X.env)])
    (hw : swappedStores [.Tuple [.Name x px, .Name y py] kt pt] (.Tuple [a, b] k2 pt2) X.env = pure (some [x, y])) (hs : swapsWithSole [.Tuple [.Name x px, .Name y py] kt pt] (.Tuple [a, b] k2 pt2) pos.line X.env = pure false) :
    PS X (.Assign [.Tuple [.Name x px, .Name y py] kt pt] (.Tuple [a, b] k2 pt2) pos) (tS M W G (.par i j ma mb)) := (ps_par g.calm g.nd hi hj hij hx hy (pa_cons ha (pa_cons hb pa_nil hs2) hs1) hw hs).impT fun D σ H ⟨F, ρ, e, h, A, a⟩ => by
  rw [exS] at a
  refine ⟨F, ρ, e, h, A, a.val fun r h1 v ρ1 H1 s p a' => ?_⟩
  obtain ⟨A1, r1⟩ := p.sh
  refine ⟨F, ρ1, e, h1, A1, AnsF.val (AnsF.later s a') fun r2 h2 v2 ρ2 H2 s2 p2 a2 => ?_⟩
  obtain ⟨A2, r2'⟩ := p2.sh
  exact ⟨v, v2, rfl, a2 _ ρ2 H2 s2 ((A2.setEnv (r1.keep s2.kp)).setEnv r2')⟩
theorem s_aug {i : Nat} {x : Str} {p2 : Pos} (g : Gd M W X) (hi : X.N[i]? = some x) (hx : Loc X.env.scope x) (ha : PE X a (tE M W G ma)) (hf : X.fn x = true ∨ X.env.scope.names.lookup x = some .local) :
    PS X (.AugAssign (.Name x p2) .Add a pos) (tS M W G (.aug i .add ma)) := (ps_aug g.nd hi hx ha ip_add hf).impT fun D σ H ⟨F, ρ, e, h, A, a⟩ => by
  rw [exS] at a
  split at a
  · rename_i d q
    obtain ⟨v, q1, q2⟩ := A.env i d q
    refine ⟨v, q1, F, ρ, e, h, A, a.val fun r h1 v1 ρ1 H1 s p a' => ?_⟩
    cases d <;> first | exact a'.elim | skip
    cases r <;> first | exact a'.elim | skip
    rename_i d
    cases d <;> first | exact a'.elim | skip
    cases rp_int q2
    cases rp_int p.2
    exact ⟨_, _, rfl, rfl, a' _ ρ1 H1 s (p.1.setEnv (.int _))⟩
  · exact a.elim
theorem s_setix {o i : Expr} {mo mi : E} {p2 : Pos} (ha : PE X a (tE M W G ma)) (ho : PE X o (tE M W G mo)) (hi : PE X i (tE M W G mi))
    (hsub : ∀ v, assign (.Subscript o i p2) X.env v = (do
      let ov ← holding [v] (eval o X.env)
      let iv ← holding [v, ov] (eval i X.env)
      standAt p2
      holding [v, ov, iv] (setItem ov iv v)
      release [v, ov, iv] []))
    (hs : swapsWithSole [.Subscript o i p2] a pos.line X.env = pure false) (hw : swappedStores [.Subscript o i p2] a X.env = pure none)
    (h1 : (assignEach [.Subscript o i p2] X.env).map (·.2) = [assign (.Subscript o i p2) X.env]) : PS X (.Assign [.Subscript o i p2] a pos) (tS M W G (.setix mo mi ma)) :=
  (ps_asg ha (pg_sub ho hi set_list hsub) hs hw h1).impT fun D σ H ⟨F, ρ, e, h, A, a⟩ => by
  rw [exS] at a
  refine ⟨F, ρ, e, h, A, a.val fun r h1 v ρ1 H1 s p a' => ?_⟩
  obtain ⟨A1, r1⟩ := p.sh
  refine ⟨F, ρ1, e, h1, A1, AnsF.val (AnsF.later s a') fun r2 h2 v2 ρ2 H2 s2 p2 a2 => ?_⟩
  obtain ⟨A2, r2'⟩ := p2.sh
  refine ⟨F, ρ2, e, h2, A2, AnsF.val (AnsF.later s2 a2) fun r3 h3 v3 ρ3 H3 s3 p3 a3 => ?_⟩
  obtain ⟨A3, r3'⟩ := p3.sh
  have a3 := AnsF.later s3 a3
  have r2'' := r2'.keep (s3.kp (F := F))
  generalize r2.sh = d2 at r2'' a3
  generalize r3.sh = d3 at r3' a3
  cases d2 <;> cases d3 <;> first | exact a3.elim | skip
  rename_i k n
  simp only [setixV] at a3
  split at a3
  · rename_i xs q
    split at a3
    · rename_i j qj
      obtain ⟨x, rfl, e1⟩ := rp_ref r2''
      cases rp_int r3'
      obtain ⟨u, e2, e3⟩ := A3.at q e1
      cases e3
      rename_i vs rs
      have hv := r1.keep ((s2.trans s3).kp (F := F))
      obtain ⟨P1, P2⟩ := A3.put (o := .lst (xs.set j r.sh)) (u := .lst (vs.set j v)) e1 e2 trivial (.lst (rs.set hv j))
      exact ⟨x, vs, _, j, rfl, rfl, e2, by rw [← rs.length]; exact qj, a3 _ ρ3 _ P2 P1⟩
    · exact a3.elim
  · exact a3.elim
/-! ### loops -/
theorem s_while {body : List Stmt} (hp : PassesOwn (model X.prog X.w) X.A X.env X.xe) (hc : PT X a (eT M W G ma)) (hb : PSs X body (tS M W G sa)) : PS X (.While a body [] pos) (tS M W G (.whl ma sa)) := (ps_while hp hc hb).impT fun D σ H ⟨F, ρ, e, h, A, a⟩ => by
  rw [exS] at a
  cases q : whlC (evE G ma) (exS G sa) e h with
  | none => rw [q] at a; exact a.elim
  | some r =>
    obtain ⟨n, qn⟩ := whlC_of q
    rw [q, ← qn] at a
    refine ⟨fun m σ H => ∃ ρ e h, Ab0 M F ρ e h σ H ∧ AnsF M W F ρ H (whlF (evE G ma) (exS G sa) m e h) D, ⟨n, ρ, e, h, A, a⟩, ?_⟩
    rintro m σ H ⟨ρ, e, h, A, a⟩
    cases m with
    | zero => exact a.elim
    | succ m =>
      rw [whlF] at a
      refine ⟨F, ρ, e, h, A, a.bool fun b h1 ρ1 H1 s A1 a1 => ?_⟩
      cases b with
      | false => exact iteF (a1 σ ρ1 H1 (Step.refl _ _) A1)
      | true =>
        rw [if_pos rfl] at a1
        refine iteT ⟨fun σ' H' => ∃ ρ e h, Ab0 M F ρ e h σ' H' ∧ AnsF M W F ρ H' (whlF (evE G ma) (exS G sa) m e h) D, fun σ' H' z => ⟨m, Nat.lt_succ_self m, z⟩, F, ρ1, e, h1, A1, a1.bind rfl fun e2 h2 σ' ρ' H' s A' a' => ⟨ρ', e2, h2, A', a'⟩⟩
theorem s_for {tg it : Expr} {t : T} {mi : E} {body : List Stmt} (g : Gd M W X) (hp : PassesOwn (model X.prog X.w) X.A X.env X.xe) (hi : PI X tg it (tI M W G mi)) (hg : PG X tg (gT M t)) (hb : PSs X body (tS M W G sa)) (hs : ∀ x, foldedSetIterable it X.env x = pure x) :
    PS X (.For tg it body [] pos) (tS M W G (.fr t mi sa)) := (ps_for hp g.calm hi hg hb hs).impT fun D σ H ⟨F, ρ, e, h, A, a⟩ => by
  rw [exS] at a
  refine ⟨F, ρ, e, h, A, ?_⟩
  cases q : evI G mi e h with
  | none => rw [q] at a; exact a
  | some o => cases o with
    | ex x h1 => rw [q] at a; exact fun cls d ρ' H' s A r => a cls d σ ρ' H' s A r
    | ok ds src h1 =>
      rw [q] at a
      dsimp only at a
      intro J ρ1 H1 s1 A1 w
      have a1 := AnsF.later s1 a
      refine ⟨fun i m σ H => ∃ ρ e h, m = ds.length - i ∧ i ≤ ds.length ∧ Kp ρ1 ρ (Xo F ρ1) (Xo F ρ) H1 H ∧ Ab0 M F ρ e h σ H ∧ AnsF M W F ρ H (forL src ds t (exS G sa) (ds.drop i) e h) D, ⟨ds.length, ρ1, e, h1, by simp, Nat.zero_le _, (Step.refl ρ1 H1).kp, A1, by simpa using a1⟩, ?_⟩
      rintro i m σc Hc ⟨ρc, ec, hc, rfl, hi, kc, Ac, ac⟩
      have src_of : srcOk src ds hc → srcRp M ρc (Xo F ρc) Hc ds src := fun z => by
        cases src with
        | none => trivial
        | some n =>
          obtain ⟨x, u, b1, b2, b3⟩ := Ac.ob n _ z
          cases b3
          exact ⟨x, _, b1, b2, by assumption⟩
      by_cases hlt : i < ds.length
      · have hd : ds[i]? = some ds[i] := List.getElem?_eq_getElem hlt
        rw [List.drop_eq_getElem_cons hlt, forL] at ac
        split at ac
        · rename_i hsrc
          have wk := (w i ρc _ Hc kc (src_of hsrc)).1 ds[i] hd
          refine .inr ⟨wk.1, fun σ' H' => ∃ ρ e h, i + 1 ≤ ds.length ∧ Kp ρ1 ρ (Xo F ρ1) (Xo F ρ) H1 H' ∧ Ab0 M F ρ e h σ' H' ∧ AnsF M W F ρ H' (forL src ds t (exS G sa) (ds.drop (i + 1)) e h) D, fun σ' H' ⟨a1, a2, a3, a4⟩ => ⟨ds.length - (i + 1), by omega, a1, a2, a3, rfl, a4⟩, fun x H' y => ?_⟩
          obtain ⟨xx, rx⟩ := wk.2 x H' y
          split at ac
          · rename_i e1 hb
            have sx := xx.step ρc
            refine ⟨F, ρc, ec, hc, ds[i], e1, Ac.grow xx, rx, hb, fun σ' A' _ => ?_⟩
            exact ⟨F, ρc, e1, hc, A', (AnsF.later sx ac).bind rfl fun e2 h2 σ2 ρ2 H2 s2 A2 a2 => ⟨ρ2, e2, h2, hlt, kc.trans (sx.trans s2).kp, A2, a2⟩⟩
          · exact ac.elim
        · exact ac.elim
      · have hi' : i = ds.length := by omega
        subst hi'
        rw [List.drop_length, forL] at ac
        split at ac
        · rename_i hsrc
          exact .inl ⟨(w _ ρc _ Hc kc (src_of hsrc)).2 (Nat.le_refl _), ac σc ρc Hc (Step.refl _ _) Ac⟩
        · exact ac.elim
/-! ### raise -/
theorem s_raise {y m : Str} {C : Addr} {bmB : List Value} {B newId initId : String} {j : Nat} {p p2 p3 : Pos} (g : Gd M W X) (FB : ExcBaseFacts B newId initId bmB) (q : PySem.W.excIn X.K C bmB newId = true) (gC : X.mg y = some (.ref C)) (kC : PySem.W.keepIn X.K (.ref C) = true) (r : Raises X (.ref C)) (hg : Gl X y)
    (hdb : (y == ("__debug__" : Str)) = false) (hC : M.ca y = some C) : PS X (.Raise (some (.Call (.Name y p) [.Constant (.str m) j p2] [] p3)) none pos) (tS M W G (.rais y)) :=
  (ps_raise g.calm g.tk (pmk_own FB q gC kC r hg hdb)).impT fun D σ H ⟨F, ρ, e, h, A, a⟩ => by
    rw [exS] at a
    exact a (.ref C) none σ ρ H (Step.refl _ _) A ⟨C, hC, rfl, rfl⟩
end
end
end Tc

/-! Tc: methods of built-in values, displays of dicts. -/
namespace Tc
open PySem L2
def rMet (M : Mo) (W : WX) (m : Me) : V → List V → Hp → VK → Prop := fun x vs H Q => ∃ F ρ e h σ d ds, Ab0 M F ρ e h σ H ∧ Rp0 M F ρ H d x ∧ Rps0 M F ρ H ds vs ∧ AnsE M W F ρ H e σ (ofP (metv m h d ds)) Q
section
variable {X : Cx} {M : Mo} {W : WX} {G : Ctx}
theorem rps_one {ρ : List Addr} {S : Addr → Prop} {H : Hp} {d : D} {vs : List V} (r : Rps M ρ S H [d] vs) : ∃ v, vs = [v] ∧ Rp M ρ S H d v := by
  obtain ⟨v, us, rfl, h1, h2⟩ := rps_cons r
  cases rps_nil h2
  exact ⟨v, rfl, h1⟩
theorem m_append : MtR X "list.append" (rMet M W .append) := by
  intro pins s σ' H x xs v us Q I rx rs q
  obtain ⟨F, ρ, e, h, σ, d, ds, A, rd, rds, a⟩ := q
  cases d <;> first | exact a.elim | skip
  rename_i n
  cases ds with
  | nil => exact a.elim
  | cons y r => cases r with
    | cons _ _ => exact a.elim
    | nil =>
      simp only [metv] at a
      split at a
      · rename_i ys q
        split at a
        · rename_i hz
          obtain ⟨p, rfl, e1⟩ := rp_ref rd
          obtain ⟨w, rfl, r1⟩ := rps_one rds
          obtain ⟨u, e2, e3⟩ := A.at q e1
          cases e3
          rename_i zs rz
          obtain ⟨P1, P2⟩ := A.put (o := .lst (ys ++ [y])) (u := .lst (zs ++ [w])) e1 e2 trivial (.lst (rz.append (.cons r1 .nil)))
          exact mt_append pins s σ' H _ _ v us Q I rx rs ⟨p, zs, w, rfl, rfl, e2, by rw [← rz.length]; exact hz, a .non ρ _ P2 ⟨P1, .non⟩⟩
        · exact a.elim
      · exact a.elim
theorem m_extend : MtR X "list.extend" (rMet M W .extend) := by
  intro pins s σ' H x xs v us Q I rx rs q
  obtain ⟨F, ρ, e, h, σ, d, ds, A, rd, rds, a⟩ := q
  cases d <;> first | exact a.elim | skip
  rename_i n
  cases ds with
  | nil => exact a.elim
  | cons y r => cases r with
    | cons _ _ => cases y <;> exact a.elim
    | nil =>
      cases y <;> first | exact a.elim | skip
      rename_i y
      simp only [metv] at a
      split at a
      · rename_i ys q
        split at a
        · rename_i hz
          obtain ⟨p, rfl, e1⟩ := rp_ref rd
          obtain ⟨w, rfl, r1⟩ := rps_one rds
          obtain ⟨b, ws, rfl, t1, n1, rw1⟩ := rp_lst r1
          obtain ⟨u, e2, e3⟩ := A.at q e1
          cases e3
          rename_i zs rz
          obtain ⟨P1, P2⟩ := A.put (o := .lst (ys ++ y)) (u := .lst (zs ++ ws)) e1 e2 trivial (.lst (rz.append rw1))
          exact mt_extend pins s σ' H _ _ v us Q I rx rs ⟨p, b, zs, ws, rfl, rfl, e2, t1, by rw [← rz.length, ← rw1.length]; exact hz, a .non ρ _ P2 ⟨P1, .non⟩⟩
        · exact a.elim
      · exact a.elim
theorem m_pop : MtR X "list.pop" (rMet M W .pop) := by
  intro pins s σ' H x xs v us Q I rx rs q
  obtain ⟨F, ρ, e, h, σ, d, ds, A, rd, rds, a⟩ := q
  cases d <;> first | exact a.elim | skip
  rename_i n
  cases ds with
  | cons _ _ => exact a.elim
  | nil =>
    simp only [metv] at a
    split at a
    · rename_i ys q
      split at a
      · rename_i y hy
        obtain ⟨p, rfl, e1⟩ := rp_ref rd
        cases rps_nil rds
        obtain ⟨u, e2, e3⟩ := A.at q e1
        cases e3
        rename_i zs rz
        obtain ⟨w, w1, w2⟩ := rz.get hy
        obtain ⟨P1, P2⟩ := A.put (o := .lst ys.dropLast) (u := .lst zs.dropLast) e1 e2 trivial (.lst rz.dropLast)
        exact mt_pop pins s σ' H _ _ v us Q I rx rs ⟨p, zs, w, rfl, rfl, e2, by rw [← rz.length]; exact w1, a w ρ _ P2 ⟨P1, w2.keep P2.kp⟩⟩
      · exact a.elim
    · exact a.elim
theorem m_startswith : MtR X "str.startswith" (rMet M W .startswith) := by
  intro pins s σ' H x xs v us Q I rx rs q
  obtain ⟨F, ρ, e, h, σ, d, ds, A, rd, rds, a⟩ := q
  cases d <;> first | exact a.elim | skip
  rename_i z
  cases ds with
  | nil => exact a.elim
  | cons y r => cases r with
    | cons _ _ => cases y <;> exact a.elim
    | nil =>
      cases y <;> first | exact a.elim | skip
      rename_i y
      cases (rp_str rd).1
      obtain ⟨w, rfl, r1⟩ := rps_one rds
      cases (rp_str r1).1
      exact mt_startswith pins s σ' H _ _ v us Q I rx rs ⟨z, y, rfl, rfl, a _ ρ H (Step.refl _ _) ⟨A, .bl _⟩⟩
section
variable {o b : Expr} {es : List Expr} {mo ma : E} {name : Str} {apos cpos : Pos} {T id : String} {m : Me}
/-- o.m(b, ..) -/
theorem e_met (g : Gd M W X) (hty' : ∀ {F ρ e h σ H d v}, Ab0 M F ρ e h σ H → Rp0 M F ρ H d v → recvOk m h d = true → tyV X.K T v H) (pa : PlainAttrs T) (slot : Slot T name id) (hty : typeOf (.builtin id) = pure (.type "method_descriptor")) (hm : MtR X id (rMet M W m)) (ho : PE X o (tE M W G mo)) (ha : PA X (b :: es) (tA M W G ma))
    (hbase : attributeBase o name X.env (eval o X.env) = eval o X.env)
    (hfew : ((backTo cpos (starEach (b :: es) X.env)).all (fun x => !x.1) && (backToKw cpos (keywordEach [] X.env)).all (fun x => x.1.isSome)
      && decide ((b :: es).length + ([] : List Keyword).length + (if ([] : List Keyword).isEmpty then 0 else 1) < 30)) = true)
    (hline : (apos.endLine == cpos.line) = true) (hs : starEach (b :: es) X.env = (false, eval b X.env) :: starEach es X.env) (hplain : (backTo cpos (starEach es X.env)).any (·.1) = false) :
    PE X (.Call (.Attribute o name apos) (b :: es) [] cpos) (tE M W G (.met m mo ma)) :=
  (pe_bm pa slot hty hm ho ha hbase hfew hline hs hplain).impT fun σ H Q ⟨F, ρ, e, h, A, a⟩ => by
    rw [evE] at a
    refine thn1 A a fun d h1 v ρ1 H1 s1 A1 r1 a1 => ?_
    split at a1
    · rename_i hr
      exact ⟨hty' A1 r1 hr, thnA A1 a1 fun ds h2 vs ρ2 H2 s2 A2 r2 a2 => ⟨F, ρ2, e, h2, σ, d, ds, A2, r1.keep s2.kp, r2, a2⟩⟩
    · exact a1.elim
theorem e_met0 (g : Gd M W X) (hty' : ∀ {F ρ e h σ H d v}, Ab0 M F ρ e h σ H → Rp0 M F ρ H d v → recvOk m h d = true → tyV X.K T v H) (pa : PlainAttrs T) (slot : Slot T name id) (hty : typeOf (.builtin id) = pure (.type "method_descriptor")) (hm : MtR X id (rMet M W m)) (ho : PE X o (tE M W G mo))
    (hbase : attributeBase o name X.env (eval o X.env) = eval o X.env) (hline : (apos.endLine == cpos.line) = true) : PE X (.Call (.Attribute o name apos) [] [] cpos) (tE M W G (.met m mo .anil)) :=
  (pe_bm0 pa slot hty hm ho hbase hline).impT fun σ H Q ⟨F, ρ, e, h, A, a⟩ => by
    rw [evE] at a
    refine thn1 A a fun d h1 v ρ1 H1 s1 A1 r1 a1 => ?_
    split at a1
    · rename_i hr
      rw [evA] at a1
      exact ⟨hty' A1 r1 hr, F, ρ1, e, h1, σ, d, [], A1, r1, .nil, a1⟩
    · exact a1.elim
theorem recv_list {m : Me} (g : Gd M W X) (hm : ∀ h d, recvOk m h d = (items h d).isSome) : ∀ {F ρ e h σ H d v}, Ab0 M F ρ e h σ H → Rp0 M F ρ H d v → recvOk m h d = true → tyV X.K "list" v H := by
  intro F ρ e h σ H d v A r q
  rw [hm] at q
  obtain ⟨xs, q⟩ := Option.isSome_iff_exists.mp q
  obtain ⟨a, vs, rfl, h1, _⟩ := rp_items A r q
  rw [g.hK] at h1
  exact .inl ⟨rfl, vs, h1⟩
theorem recv_str {m : Me} (hm : ∀ h d, recvOk m h d = true → ∃ z, d = .str z) : ∀ {F ρ e h σ H d v}, Ab0 M F ρ e h σ H → Rp0 M F ρ H d v → recvOk m h d = true → tyV X.K "str" v H := by
  intro F ρ e h σ H d v A r q
  obtain ⟨z, rfl⟩ := hm _ _ q
  cases (rp_str r).1
  rfl
end
end
end Tc

/-! Tc: new objects, dict displays, code that is never reached. -/
namespace Tc
open PySem L2
section
variable {X : Cx} {M : Mo} {W : WX} {G : Ctx}
theorem e_stuck {x : Expr} : PE X x (tE M W G .anil) := ⟨fun pins s σ H Q I ⟨F, ρ, e, h, A, a⟩ => by
  simp only [evE] at a
  exact a.elim⟩
theorem t_stuck {x : Expr} : PT X x (eT M W G .anil) := ⟨fun pins s σ H Q I ⟨F, ρ, e, h, A, a⟩ => by
  simp only [evE] at a
  exact a.elim⟩
theorem s_stuck {x : Stmt} : PS X x (tS M W G (.expr .anil)) := ⟨fun pins s σ H D I ⟨F, ρ, e, h, A, a⟩ => by
  simp only [exS, evE, valF] at a
  exact a.elim⟩
theorem e_obj {x : Expr} {m : E} (hx : PE X x (tE M W G m)) : PE X x (tE M W G (.obj m)) := hx.impT fun σ H Q ⟨F, ρ, e, h, A, a⟩ => by
  refine ⟨F, ρ, e, h, A, ?_⟩
  rw [evE] at a
  cases q : evE G m e h with
  | none => rw [q] at a; exact a
  | some o => cases o with
    | ex x h1 => rw [q] at a; exact a
    | ok r h1 =>
      rw [q] at a
      cases r with
      | d d => exact a
      | tl xs =>
        intro v ρ' H' s p
        obtain ⟨b, vs, rfl, n, na, q, B, rs⟩ := p
        have J := B.join na q (.lst rs)
        exact a (.ref b) (ρ' ++ [b]) H' (s.join n) ⟨J, .ref (by rw [B.hl, List.getElem?_append_right (Nat.le_refl _), Nat.sub_self]; rfl)⟩
      | td xs =>
        intro v ρ' H' s p
        obtain ⟨b, vs, rfl, n, na, q, B, rs⟩ := p
        have J := B.join na q (.dct rs)
        exact a (.ref b) (ρ' ++ [b]) H' (s.join n) ⟨J, .ref (by rw [B.hl, List.getElem?_append_right (Nat.le_refl _), Nat.sub_self]; rfl)⟩
/-! ### dict displays with texts for keys -/
def cKeys : List (Option Expr) → Option (List Str)
  | [] => some []
  | some (.Constant (.str x) _ _) :: r => if PyData.strOk x then (cKeys r).map fun s => x :: s else none
  | _ :: _ => none
theorem pairs_nil {pos : Pos} : PPs X pos [] [] [] := pps_nil
/-- what is read of the pairs -/
structure PRd (M : Mo) (W : WX) (G : Ctx) (ks : List Str) (m : E) (trs : List (TE × TE)) : Prop where
  rd : ∀ σ H R, tA M W G m σ H R → tPairs trs σ H fun ps H' => ∃ vs, ps = (ks.map V.str).zip vs ∧ R vs H'
theorem rd_nil : PRd M W G [] .anil [] := ⟨fun σ H R ⟨F, ρ, e, h, A, a⟩ => by
  rw [evA] at a
  exact ⟨[], rfl, a [] ρ H (Step.refl _ _) A .nil⟩⟩
theorem tPairs_imp : ∀ {trs : List (TE × TE)} {σ : L2.St} {H : Hp} {Q R : List (V × V) → Hp → Prop}, (∀ p ∈ trs, (∀ σ H Q R, (∀ v H, Q v H → R v H) → p.1 σ H Q → p.1 σ H R) ∧ ∀ σ H Q R, (∀ v H, Q v H → R v H) → p.2 σ H Q → p.2 σ H R) → (∀ ps H, Q ps H → R ps H) → tPairs trs σ H Q → tPairs trs σ H R
  | [], _, _, _, _, _, h, q => h _ _ q
  | (tk, tv) :: r, σ, H, Q, R, m, h, q => (m (tk, tv) List.mem_cons_self).1 _ _ _ _ (fun x H1 q => (m (tk, tv) List.mem_cons_self).2 _ _ _ _ (fun y H2 q => tPairs_imp (fun p hp => m p (List.mem_cons_of_mem _ hp)) (fun ps H3 q => h _ _ q) q) q) q
theorem tE_imp {m : E} {σ : L2.St} {H : Hp} {Q R : VK} (h : ∀ v H, Q v H → R v H) (q : tE M W G m σ H Q) : tE M W G m σ H R := by
  obtain ⟨F, ρ, e, h1, A, a⟩ := q
  refine ⟨F, ρ, e, h1, A, ?_⟩
  cases q : evE G m e h1 with
  | none => rw [q] at a; exact a
  | some o => cases o with
    | ok r h2 => rw [q] at a; exact fun v ρ' H' s p => h _ _ (a v ρ' H' s p)
    | ex x h2 => rw [q] at a; exact a
theorem tA_cons {ma mb : E} {σ : L2.St} {H : Hp} {R : List V → Hp → Prop} (q : tA M W G (.acons ma mb) σ H R) : tE M W G ma σ H fun v H1 => tA M W G mb σ H1 fun vs H2 => R (v :: vs) H2 := by
  obtain ⟨F, ρ, e, h, A, a⟩ := q
  rw [evA] at a
  refine ⟨F, ρ, e, h, A, ?_⟩
  cases q : evE G ma e h with
  | none => rw [q] at a; exact a
  | some o => cases o with
    | ex x h1 => rw [q] at a; exact a
    | ok r h1 =>
      rw [q] at a
      intro v ρ1 H1 s1 p1
      obtain ⟨A1, r1⟩ := p1.sh
      refine ⟨F, ρ1, e, h1, A1, ?_⟩
      cases q2 : evA G mb e h1 with
      | none => simp only [q2] at a; exact a
      | some o => cases o with
        | ex x h2 => simp only [q2] at a; exact fun cls d ρ' H' s A' rx => a cls d ρ' H' (s1.trans s) A' rx
        | ok ds h2 =>
          simp only [q2] at a
          exact fun vs ρ2 H2 s2 A2 r2 => a _ ρ2 H2 (s1.trans s2) A2 (.cons (r1.keep s2.kp) r2)
theorem rd_cons {k : Str} {ks : List Str} {ma mb : E} {trs : List (TE × TE)} (h : PRd M W G ks mb trs) (hm : ∀ σ H Q R, (∀ ps H, Q ps H → R ps H) → tPairs trs σ H Q → tPairs trs σ H R) : PRd M W G (k :: ks) (.acons ma mb) ((tC (.str k), tE M W G ma) :: trs) := ⟨fun σ H R q => by
  show tE M W G ma σ H fun y H2 => tPairs trs σ H2 fun ps H3 => _
  refine tE_imp (fun v H1 q => ?_) (tA_cons q)
  refine hm _ _ _ _ (fun ps H3 z => ?_) (h.rd _ _ _ q)
  obtain ⟨vs, e, z⟩ := z
  exact ⟨v :: vs, by rw [e]; rfl, z⟩⟩
theorem tpm : ∀ {trs : List (TE × TE)}, (∀ p ∈ trs, (∃ k : Str, p.1 = tC (.str k)) ∧ ∃ m, p.2 = tE M W G m) → ∀ σ H Q R, (∀ ps H, Q ps H → R ps H) → tPairs trs σ H Q → tPairs trs σ H R := fun h σ H Q R i q =>
  tPairs_imp (fun p hp => by
    obtain ⟨⟨k, e1⟩, m, e2⟩ := h p hp
    rw [e1, e2]
    exact ⟨fun σ H Q R i q => i _ _ q, fun σ H Q R i q => tE_imp i q⟩) i q
theorem valV_out {k : Key} : ∀ {acc : List (Key × V)}, (∀ p ∈ acc, p.1 ≠ k) → valV acc k = none
  | [], _ => rfl
  | p :: r, h => by rw [valV_neg (h p List.mem_cons_self)]; exact valV_out fun q hq => h q (List.mem_cons_of_mem _ hq)
theorem kvs_nodup : ∀ {ks : List Str} {vs : List V} {acc : List (Key × V)}, ks.Nodup → (∀ k ∈ ks, ∀ p ∈ acc, p.1 ≠ Sum.inr k) → mergeK acc ((ks.map (Sum.inr : Str → Key)).zip vs) = acc ++ (ks.map (Sum.inr : Str → Key)).zip vs
  | [], vs, acc, _, _ => by simp [mergeK]
  | k :: ks, [], acc, _, _ => by simp [mergeK]
  | k :: ks, v :: vs, acc, nd, h => by
    have e : putK acc (Sum.inr k) v = acc ++ [(Sum.inr k, v)] := putK_new v (valV_out (h k List.mem_cons_self))
    show mergeK (putK acc (Sum.inr k) v) ((ks.map (Sum.inr : Str → Key)).zip vs) = _
    rw [e, kvs_nodup (List.nodup_cons.mp nd).2 (fun k' hk p hp => ?_)]
    · rw [List.append_assoc]
      rfl
    · rcases List.mem_append.mp hp with hp | hp
      · exact h k' (List.mem_cons_of_mem _ hk) p hp
      · rw [List.mem_singleton] at hp
        subst hp
        intro e
        have e' : k = k' := by simpa using e
        subst e'
        exact (List.nodup_cons.mp nd).1 hk
theorem rpk_zip {M : Mo} {ρ : List Addr} {Y : Addr → Prop} {H : Hp} : ∀ {ks : List Str} {ds : List D} {vs : List V}, (∀ k ∈ ks, PyData.strOk k = true) → Rps M ρ Y H ds vs → Rpk M ρ Y H ((ks.map D.str).zip ds) ((ks.map (Sum.inr : Str → Key)).zip vs)
  | [], _, _, _, _ => by simpa using Rpk.nil
  | k :: ks, _, _, _, .nil => by simpa using Rpk.nil
  | k :: ks, _, _, h, .cons r t => by
    simp only [List.map_cons, List.zip_cons_cons]
    exact .str (h k List.mem_cons_self) r (rpk_zip (fun k hk => h k (List.mem_cons_of_mem _ hk)) t)
theorem zip_kV : ∀ (ks : List Str) (vs : List V), (ks.map V.str).zip vs = ((ks.map (Sum.inr : Str → Key)).zip vs).map fun kv => (kV kv.1, kv.2)
  | [], _ => rfl
  | _ :: _, [] => rfl
  | k :: ks, v :: vs => by
    simp only [List.map_cons, List.zip_cons_cons]
    rw [zip_kV ks vs]
    rfl
theorem AnsA.len {F : Addr → Prop} {ρ : List Addr} {H : Hp} {e : Env} {σ : L2.St} {m : E} {h : Sto} {R : List V → Hp → Prop} (a : AnsA M W F ρ H e σ (evA G m e h) R) : AnsA M W F ρ H e σ (evA G m e h) fun vs H => vs.length = m.alen ∧ R vs H := by
  cases q : evA G m e h with
  | none => rw [q] at a; exact a
  | some o => cases o with
    | ok r h2 => rw [q] at a; exact fun v ρ' H' s A p => ⟨by rw [← p.length]; exact evA_len q, a v ρ' H' s A p⟩
    | ex x h2 => rw [q] at a; exact a
theorem e_dct {pos : Pos} {keys : List (Option Expr)} {values : List Expr} {ks : List Str} {m : E} {trs : List (TE × TE)} (hp : PPs X pos keys values trs) (rd : PRd M W G ks m trs) (hm : ∀ σ H Q R, (∀ ps H, Q ps H → R ps H) → tPairs trs σ H Q → tPairs trs σ H R)
    (hall : keys.all (·.isSome) = true) (hl : keys.length = values.length) (h0 : keys ≠ []) (h15 : keys.length ≤ 15) (hk : ks.length = keys.length) (hs : ∀ k ∈ ks, PyData.strOk k = true) : PE X (.Dict keys values pos) (tE M W G (.dct ks m)) :=
  (pe_disp hp hall hl h0 h15).impT fun σ H Q ⟨F, ρ, e, h, A, a⟩ p hp => by
    rw [evE] at a
    have n : ¬ Xo F ρ p := A.notin hp
    have x1 : Ext H (upd H p (.dK [])) := Ext.upd hp
    have A1 : Ab0 M (fun b => b = p ∨ F b) ρ e h σ (upd H p (.dK [])) := (A.shut x1 hp upd_same).less fun b z => two_shut z
    refine hm _ _ _ _ ?_ (rd.rd σ _ (fun vs H2 => vs.length = m.alen ∧ H2 p = some (.dK []) ∧ (ks.Nodup → Q (.ref p) (upd H2 p (.dK ((ks.map (Sum.inr : Str → Key)).zip vs)))) ∧ ks.Nodup) ⟨_, ρ, e, h, A1, AnsA.len ?_⟩)
    · rintro ps H2 ⟨vs, rfl, h1, h2, h3, h4⟩
      refine ⟨h2, (ks.map (Sum.inr : Str → Key)).zip vs, zip_kV ks vs, ?_, ?_⟩
      · rw [List.length_zip, List.length_map]
        omega
      · rw [kvs_nodup h4 (fun k _ p hp => absurd hp (by simp)), List.nil_append]
        exact h3 h4
    · cases q : evA G m e h with
      | none => rw [q] at a; exact a
      | some o => cases o with
        | ex x h2 =>
          rw [q] at a
          refine fun cls d ρ' H' s B r => a cls d ρ' H' ((x1.step ρ).trans s) (B.less fun b z => z.imp id .inr) ?_
          obtain ⟨C, c1, c2, c3⟩ := r
          refine ⟨C, c1, c2, ?_⟩
          obtain ⟨c, fs⟩ := x
          match fs, c3 with
          | [], c3 => exact c3
          | [(f, y)], ⟨b, v, e1, e2, e3⟩ => exact ⟨b, v, e1, e2, e3.keep (Kp.less _ _ fun b z => z.imp id .inr)⟩
        | ok ds h2 =>
          rw [q] at a
          dsimp only [thenA] at a
          split at a
          · rename_i hc
            intro vs ρ' H2 s B r
            have np : p ∉ ρ' := fun z => by
              rcases s.new p z with z | z
              · exact n (.inl z)
              · rw [upd_same] at z; cases z
            have e2 : H2 p = some (.dK []) := s.keep p _ upd_same fun z => n (.inl z)
            have nx : ¬ Xo F ρ' p := fun z => z.elim np fun z => n (.inr z)
            refine ⟨e2, fun nd => ?_, hc.2⟩
            have ne : ∀ b u, H b = some u → b ≠ p := fun b u e z => by rw [z, hp] at e; cases e
            have S : Step ρ H ρ' (upd H2 p (.dK ((ks.map (Sum.inr : Str → Key)).zip vs))) := by
              refine ⟨s.pre, fun b z => (s.new b z).imp id fun z => x1.back z, fun b u e m => ?_, fun b xs e => ?_, fun b o u e => ?_, fun b e => ?_⟩
              · rw [upd_ne (ne b u e)]; exact s.keep b u (x1 b u e) m
              · rw [upd_ne (ne b _ e)]; exact s.tups b _ (x1 b _ e)
              · rw [upd_ne (ne b _ e)]; exact s.frzs b _ _ (x1 b _ e)
              · by_cases z : b = p
                · rw [z]; exact hp
                · rw [upd_ne z] at e; exact x1.back (s.back b e)
            have K : Kp ρ' ρ' (Xo (fun b => b = p ∨ F b) ρ') (fun b => b = p ∨ Xo F ρ' b) H2 (upd H2 p (.dK ((ks.map (Sum.inr : Str → Key)).zip vs))) := by
              refine ⟨fun _ _ e => e, fun b xs e => ?_, fun b o u e => ?_, fun b u e m => ⟨?_, fun z => m (two_shut' z)⟩⟩
              · rw [upd_ne]; exact e
                rintro rfl; rw [e2] at e; cases e
              · rw [upd_ne]; exact e
                rintro rfl; rw [e2] at e; cases e
              · rw [upd_ne]; exact e
                rintro rfl; exact m (.inr (.inl rfl))
            have B' : Ab M ρ' (fun b => b = p ∨ Xo F ρ' b) e h2 σ (upd H2 p (.dK ((ks.map (Sum.inr : Str → Key)).zip vs))) := by
              refine ⟨B.hl, B.nd, fun i o z => ?_, B.el, fun i d z => ?_, fun b z => ?_⟩
              · obtain ⟨b, u, q1, q2, q3⟩ := B.ob i o z
                refine ⟨b, u, q1, ?_, q3.keep K⟩
                rw [upd_ne]; exact q2
                rintro rfl; exact np (List.mem_of_getElem? q1)
              · obtain ⟨v, q1, q2⟩ := B.env i d z
                exact ⟨v, q1, q2.keep K⟩
              · by_cases hb : b = p
                · subst hb; exact ⟨_, upd_same⟩
                · obtain ⟨u, q⟩ := B.fx b (two_shut' z)
                  exact ⟨u, by rw [upd_ne hb]; exact q⟩
            exact a (.ref p) ρ' _ S ⟨p, _, rfl, hp, nx, upd_same, B', rpk_zip hs (r.keep K)⟩
          · exact a.elim
end
end Tc

/-! Tc: from the kit's syntax to ours, and that the machine keeps to it: expressions. -/
namespace Tc
open PySem L2
/-- what the translation knows: the scope, the names by slots, the defs with their numbers of parameters, the constants, the built-ins in use, the names whose new lists become objects, whether it is a def's own body -/
structure Cc where
  sc : Scope
  N : List Str
  np : List (Str × Nat)
  cs : List Str
  bl : List Str
  mu : List Str
  top : Bool
def isStar : Expr → Bool
  | .Starred .. => true
  | _ => false
def Cc.kind (C : Cc) (x : Str) : Option NameKind := C.sc.names.lookup x
def Cc.gl (C : Cc) (x : Str) : Bool := C.kind x == some .globalImplicit && x != ("__debug__" : Str) && x != ("__name__" : Str)
def Cc.blt (C : Cc) (x : Str) : Bool := C.gl x && C.bl.contains x
def cName (C : Cc) (x : Str) : Option E :=
  if x == ("__debug__" : Str) || x == ("__classdict__" : Str) then none else
  if C.kind x == some .local || C.kind x == some .cell || C.kind x == some .free then
    if C.N[C.N.idxOf x]? == some x then some (.var (C.N.idxOf x)) else none
  else if C.gl x && C.cs.contains x then some (.glob x) else none
def cConst : Const → Option E
  | .int i => some (.lit (.int i))
  | .bool b => some (.lit (.bl b))
  | .none => some (.lit .non)
  | .str x => if PyData.strOk x then some (.lit (.str x)) else none
  | _ => none
def binOf : Operator → Option Bin
  | .Add => some .add | .Sub => some .sub | .Mult => some .mul | .Mod => some .mod | .FloorDiv => some .fdiv | .Pow => some .pow
  | _ => none
def cmpOf : CmpOp → Cmp
  | .Eq => .eq | .NotEq => .ne | .Lt => .lt | .LtE => .le | .Gt => .gt | .GtE => .ge | .Is => .is | .IsNot => .isnt | .In => .mem | .NotIn => .nmem
def cBin (f : Expr → Option E) (a : Expr) (op : Operator) (b : Expr) : Option E := (binOf op).bind fun o => (f a).bind fun x => (f b).map fun y => .bin o x y
def cUn (f : Expr → Option E) (op : UnaryOp) (a : Expr) : Option E := match op, a with
  | .USub, .Constant (.int i) _ _ => some (.lit (.int (-i)))
  | .Not, a => (f a).map .not
  | _, _ => none
def cBool (f : Expr → Option E) (op : BoolOp) : List Expr → Option E
  | [] => none
  | [a] => f a
  | a :: b :: r => (f a).bind fun x => (cBool f op (b :: r)).map fun y => match op with
    | .And => .and x y
    | .Or => .or x y
def cCmp (f : Expr → Option E) (a : Expr) : List CmpOp → List Expr → Option E
  | [op], [b] => if behindInMarks op b then none else (f a).bind fun x => (f b).map fun y => .cmp (cmpOf op) x y
  | _, _ => none
def cArgs (f : Expr → Option E) : List Expr → Option E
  | [] => some .anil
  | a :: r => if isStar a then none else (f a).bind fun x => (cArgs f r).map fun y => .acons x y
def cTup (f : Expr → Option E) (es : List Expr) : Option E := if es.length ≤ 1000 then (cArgs f es).map .tup else none
def cLst (f : Expr → Option E) (es : List Expr) : Option E := if es.length ≤ 1000 then (cArgs f es).map .lst else none
def isSlice : Expr → Bool
  | .Slice .. => true
  | _ => false
def cSub (f : Expr → Option E) (a s : Expr) : Option E := match s with
  | .Slice (some l) (some u) none _ => (f a).bind fun x => (f l).bind fun y => (f u).map fun z => .sl x y z
  | .Slice (some l) none none _ => (f a).bind fun x => (f l).map fun y => .slf x y
  | .Slice none (some u) none _ => (f a).bind fun x => (f u).map fun y => .slt x y
  | s => if isSlice s then none else (f a).bind fun x => (f s).map fun y => .ix x y
def tpOf (x : Str) : Option Tp :=
  if x == ("int" : Str) then some .int else if x == ("bool" : Str) then some .bool else if x == ("str" : Str) then some .str else if x == ("tuple" : Str) then some .tuple else if x == ("list" : Str) then some .list else none
def b1Of (x : Str) : Option B1 :=
  if x == ("len" : Str) then some .len else if x == ("abs" : Str) then some .abs else if x == ("tuple" : Str) then some .tuple else if x == ("list" : Str) then some .list else if x == ("all" : Str) then some .all
  else if x == ("sum" : Str) then some .sum else if x == ("int" : Str) then some .int else none
def b2Of (x : Str) : Option B2 := if x == ("min" : Str) then some .min else if x == ("max" : Str) then some .max else none
def cBlt (C : Cc) (f : Expr → Option E) (x : Str) (as : List Expr) : Option E := match as with
  | [a] => if isStar a then none else (b1Of x).bind fun b => (f a).map fun y => .b1 b y
  | [a, b] => if isStar a || isStar b then none else
    if x == ("isinstance" : Str) then match b with
      | .Name t _ => if C.blt t then (tpOf t).bind fun tp => (f a).map fun y => .isi y [tp] else none
      | _ => none
    else (b2Of x).bind fun o => (f a).bind fun y => (f b).map fun z => .b2 o y z
  | _ => none
def metOf (x : Str) (n : Nat) : Option Me :=
  if x == ("append" : Str) && n == 1 then some .append else if x == ("extend" : Str) && n == 1 then some .extend else if x == ("pop" : Str) && n == 0 then some .pop
  else if x == ("startswith" : Str) && n == 1 then some .startswith else none
def isName : Expr → Bool
  | .Name .. => true
  | _ => false
def cCall (C : Cc) (f : Expr → Option E) (fn : Expr) (as : List Expr) (ks : List Keyword) (pos : Pos) : Option E := match fn, ks with
  | .Name x _, [] =>
    if C.blt x then cBlt C f x as
    else if C.gl x then (C.np.lookup x).bind fun n => (cArgs f as).bind fun y => if y.alen == n then some (if C.mu.contains x then .obj (.call x y) else .call x y) else none
    else none
  | .Attribute o m apos, [] => if apos.endLine == pos.line && isName o && as.length ≤ 1 then (metOf m as.length).bind fun me => (f o).bind fun x => (cArgs f as).map fun y => .met me x y else none
  | _, _ => none
def cTsW (f : Expr → Option T) : List Expr → Option T
  | [] => some .nil
  | e :: r => if isStar e then none else (f e).bind fun t => (cTsW f r).map fun u => .cons t u
def cT (C : Cc) : Nat → Expr → Option T
  | 0, _ => none
  | n + 1, e => match e with
    | .Name x _ => if (C.kind x == some .local || (C.top && C.kind x == some .cell)) && C.N[C.N.idxOf x]? == some x then some (.v (C.N.idxOf x)) else none
    | .Tuple es _ _ => (cTsW (cT C n) es).map .tp
    | _ => none
/-- what may stand as a test -/
def isT : Nat → Expr → Bool
  | 0, _ => false
  | n + 1, e => match e with
    | .Compare .. => true
    | .BoolOp _ vs _ => vs.all (isT n)
    | .UnaryOp .Not a _ => isT n a
    | .Call (.Name ..) _ _ _ => true
    | .Call (.Attribute ..) _ _ _ => true
    | .Name .. => true
    | _ => false
def isTupE : Expr → Bool
  | .Tuple .. => true
  | _ => false
def isSet : Expr → Bool
  | .Set .. => true
  | _ => false
def cI (C : Cc) (f : Expr → Option E) (tg it : Expr) : Option E := match it with
  | .Call (.Name x _) as [] _ => if C.blt x then
      if x == ("range" : Str) then match as with
        | [a] => if isStar a then none else (f a).map .irng1
        | [a, b] => if isStar a || isStar b then none else (f a).bind fun y => (f b).map fun z => .irng2 y z
        | [a, b, c] => if isStar a || isStar b || isStar c then none else (f a).bind fun y => (f b).bind fun z => (f c).map fun w => .irng3 y z w
        | _ => none
      else if x == ("enumerate" : Str) then match as with
        | [a] => if isStar a || !isTupE tg then none else (f a).map .ienum
        | _ => none
      else if x == ("zip" : Str) then match as with
        | [a, b] => if isStar a || isStar b || !isTupE tg then none else (f a).bind fun y => (f b).map fun z => .izip y z
        | _ => none
      else (f it).map .iseq
    else (f it).map .iseq
  | it => if isSet it || isStar it then none else (f it).map .iseq
def ownOf (N : List Str) (scope : Scope) : List (Str × Nat) := (scope.names.filter fun y => (y.2 == .local || y.2 == .cell) && N.contains y.1).map fun y => (y.1, N.idxOf y.1)
def cLc (C : Cc) (f : Cc → Expr → Option E) (elt : Expr) (gs : List Comprehension) (scope : Scope) : Option E := match gs with
  | [⟨tg, it, ifs, 0⟩] =>
    let own := ownOf C.N scope
    let C' : Cc := { C with sc := relS scope C.sc, top := false }
    if blkC C.N C.sc scope own && !isSet it then (cI C (f C) tg it).bind fun i => (cT C' 9 tg).bind fun t => if t.slots.all fun s => (own.map (·.2)).contains s then
      match ifs with
      | [] => (f C' elt).map fun y => .lc (own.map (·.2)) t i y
      | [c] => if isT 9 c then (f C' c).bind fun x => (f C' elt).map fun y => .lcc (own.map (·.2)) t i x y else none
      | _ => none
      else none
    else none
  | _ => none
def cDct (f : Expr → Option E) (keys : List (Option Expr)) (values : List Expr) : Option E :=
  if keys.length == values.length && decide (keys.length ≤ 15) then (cKeys keys).bind fun ks => (cArgs f values).map fun y => .dct ks y else none
def cE1 (F : Cc → Expr → Option E) (C : Cc) (e : Expr) : Option E := match e with
  | .Name x _ => cName C x
  | .Constant c _ _ => cConst c
  | .BinOp a op b _ => cBin (F C) a op b
  | .UnaryOp op a _ => cUn (F C) op a
  | .BoolOp op vs _ => cBool (F C) op vs
  | .Compare a ops bs _ => cCmp (F C) a ops bs
  | .Call f as ks pos => cCall C (F C) f as ks pos
  | .Tuple es _ _ => cTup (F C) es
  | .List es _ => cLst (F C) es
  | .Subscript a s _ => cSub (F C) a s
  | .ListComp elt gs scope _ => cLc C F elt gs scope
  | .Dict keys values _ => cDct (F C) keys values
  | _ => none

/-- what is not covered is never reached -/
def cE : Nat → Cc → Expr → Option E
  | 0, _, _ => none
  | n + 1, C, e => some ((cE1 (cE n) C e).getD .anil)

/-! ### soundness -/
/-- the context is as the translation takes it -/
structure Cok (M : Mo) (P : Prog) (k : Nat) (C : Cc) (W : WX) (X : Cx) : Prop where
  g : Gd M W X
  hsc : X.env.scope = C.sc
  hN : X.N = C.N
  room : Room k X.A
  defs : ∀ x n, C.np.lookup x = some n → ∃ a fd ps, X.mg x = some (.ref a) ∧ PySem.W.keepIn X.K (.ref a) = true ∧ Binds X.K fd ps [] ∧ FnOk X.prog X.w X.K X.mg X.base (L2.CX X.prog X.w) k a fd ps (spF M n (callF P k x))
  csts : ∀ x, C.cs.contains x = true → ∃ d v u, P.csts.lookup x = some d ∧ X.mg x = some u ∧ RelV v u ∧ ∀ F ρ H, Rp0 M F ρ H d v
  blts : ∀ x, C.bl.contains x = true → X.mg x = none
  fnok : C.top = true → ∀ x, X.fn x = true
section
variable {M : Mo} {P : Prog} {k : Nat} {C : Cc} {W : WX} {X : Cx}
theorem gl_of (ok : Cok M P k C W X) {x : Str} (h : C.gl x = true) : Gl X x ∧ (x == ("__debug__" : Str)) = false ∧ x ≠ "__name__" := by
  unfold Cc.gl Cc.kind at h
  simp only [Bool.and_eq_true, beq_iff_eq, bne_iff_ne, ne_eq] at h
  refine ⟨?_, by simpa using h.1.2, h.2⟩
  show X.env.scope.names.lookup x = some .globalImplicit
  rw [ok.hsc]
  exact h.1.1
theorem blt_of (ok : Cok M P k C W X) {x : Str} (h : C.blt x = true) : Gl X x ∧ X.mg x = none ∧ (x == ("__debug__" : Str)) = false ∧ x ≠ "__name__" := by
  unfold Cc.blt at h
  rw [Bool.and_eq_true] at h
  obtain ⟨a, b, c⟩ := gl_of ok h.1
  exact ⟨a, ok.blts x h.2, b, c⟩
abbrev Good (M : Mo) (P : Prog) (k : Nat) (W : WX) (X : Cx) (f : Expr → Option E) : Prop := ∀ e m, f e = some m → PE X e (tE M W (ctx P k) m)
theorem star_each {a : Expr} {es : List Expr} {env : PySem.Env} (h : isStar a = false) : starEach (a :: es) env = (false, eval a env) :: starEach es env := by
  cases a <;> first | rfl | cases h
theorem c_name (ok : Cok M P k C W X) {x : Str} {pos : Pos} {m : E} (q : cName C x = some m) : PE X (.Name x pos) (tE M W (ctx P k) m) := by
  unfold cName at q
  split at q
  · cases q
  · rename_i h0
    simp only [Bool.or_eq_true, not_or, Bool.not_eq_true] at h0
    split at q
    · rename_i h1
      split at q
      · rename_i h2
        cases q
        refine e_var (pe_var (by rw [ok.hN]; exact beq_iff_eq.mp h2) ?_ h0.1 h0.2)
        unfold Vis
        rw [ok.hsc]
        simp only [Bool.or_eq_true, beq_iff_eq] at h1
        unfold Cc.kind at h1
        rcases h1 with (h1 | h1) | h1
        · exact .inl h1
        · exact .inr (.inl h1)
        · exact .inr (.inr h1)
      · cases q
    · split at q
      · rename_i h1
        cases q
        rw [Bool.and_eq_true] at h1
        obtain ⟨hg, hd, _⟩ := gl_of ok h1.1
        obtain ⟨d, v, u, e1, e2, e3, e4⟩ := ok.csts x h1.2
        exact e_glob (pe_glob hg e2 e3 hd) e1 e4
      · cases q
theorem c_const {c : Const} {j : Nat} {pos : Pos} {m : E} {G : Ctx} (q : cConst c = some m) : PE X (.Constant c j pos) (tE M W G m) := by
  unfold cConst at q
  split at q <;> first | cases q | skip
  · exact e_const pe_int fun _ _ _ => .int _
  · exact e_const pe_bl fun _ _ _ => .bl _
  · exact e_const pe_non fun _ _ _ => .non
  · split at q
    · rename_i h
      cases q
      exact e_const pe_str fun _ _ _ => .str _ h
    · cases q
section
variable {f : Expr → Option E} {m : E} {pos : Pos}
theorem c_bin (ok : Cok M P k C W X) (hf : Good M P k W X f) {a b : Expr} {op : Operator} (q : cBin f a op b = some m) : PE X (.BinOp a op b pos) (tE M W (ctx P k) m) := by
  unfold cBin at q
  simp only [Option.bind_eq_some_iff, Option.map_eq_some_iff] at q
  obtain ⟨o, h1, x, h2, y, h3, rfl⟩ := q
  have e : op = opB o := by cases op <;> simp only [binOf] at h1 <;> cases h1 <;> rfl
  subst e
  exact e_bin ok.g (hf _ _ h2) (hf _ _ h3)
theorem c_un (ok : Cok M P k C W X) (hf : Good M P k W X f) {a : Expr} {op : UnaryOp} (q : cUn f op a = some m) : PE X (.UnaryOp op a pos) (tE M W (ctx P k) m) := by
  unfold cUn at q
  split at q
  · cases q
    refine (pe_un un_neg pe_int).impT fun σ H Q ⟨F, ρ, e, h, A, an⟩ => ?_
    rw [evE] at an
    exact ⟨_, rfl, an _ ρ H (Step.refl _ _) ⟨A, .int _⟩⟩
  · simp only [Option.map_eq_some_iff] at q
    obtain ⟨x, h1, rfl⟩ := q
    exact (pe_not (hf _ _ h1)).impT fun σ H Q q => notV_read q
  · cases q
theorem c_bool (hf : Good M P k W X f) {op : BoolOp} : ∀ {vs : List Expr} {m : E}, cBool f op vs = some m → PE X (.BoolOp op vs pos) (tE M W (ctx P k) m)
  | [], _, q => by cases q
  | [a], _, q => pe_one (hf _ _ q)
  | a :: b :: r, _, q => by
    unfold cBool at q
    simp only [Option.bind_eq_some_iff, Option.map_eq_some_iff] at q
    obtain ⟨x, h1, y, h2, rfl⟩ := q
    have ih := c_bool hf h2
    cases op with
    | And => exact (pe_and (hf _ _ h1) ih).impT fun σ H Q q => andV_read q
    | Or => exact (pe_or (hf _ _ h1) ih).impT fun σ H Q q => orV_read q
theorem c_cmp (ok : Cok M P k C W X) (hf : Good M P k W X f) {a : Expr} {ops : List CmpOp} {bs : List Expr} (q : cCmp f a ops bs = some m) : PE X (.Compare a ops bs pos) (tE M W (ctx P k) m) := by
  unfold cCmp at q
  split at q
  · rename_i op b
    split at q
    · cases q
    · rename_i hm
      simp only [Option.bind_eq_some_iff, Option.map_eq_some_iff] at q
      obtain ⟨x, h1, y, h2, rfl⟩ := q
      have e : op = opC (cmpOf op) := by cases op <;> rfl
      have z := e_cmp (pos := pos) (o := cmpOf op) ok.g (hf _ _ h1) (hf _ _ h2) (by rw [← e]; simpa using hm)
      rw [← e] at z
      exact z
  · cases q
theorem t_cmp' (ok : Cok M P k C W X) (hf : Good M P k W X f) {a : Expr} {ops : List CmpOp} {bs : List Expr} (q : cCmp f a ops bs = some m) : PT X (.Compare a ops bs pos) (eT M W (ctx P k) m) := by
  unfold cCmp at q
  split at q
  · rename_i op b
    split at q
    · cases q
    · rename_i hm
      simp only [Option.bind_eq_some_iff, Option.map_eq_some_iff] at q
      obtain ⟨x, h1, y, h2, rfl⟩ := q
      have e : op = opC (cmpOf op) := by cases op <;> rfl
      have z := t_cmp (pos := pos) (o := cmpOf op) ok.g (hf _ _ h1) (hf _ _ h2) (by rw [← e]; simpa using hm)
      rw [← e] at z
      exact z
  · cases q
theorem c_args (hf : Good M P k W X f) : ∀ {es : List Expr} {m : E}, cArgs f es = some m → PA X es (tA M W (ctx P k) m) ∧ m.alen = es.length ∧ ∀ pos, (backTo pos (starEach es X.env)).any (·.1) = false
  | [], _, q => by
    cases q
    exact ⟨a_nil, rfl, fun _ => rfl⟩
  | a :: r, _, q => by
    unfold cArgs at q
    split at q
    · cases q
    · rename_i hs
      have hs' : isStar a = false := by simpa using hs
      simp only [Option.bind_eq_some_iff, Option.map_eq_some_iff] at q
      obtain ⟨x, h1, y, h2, rfl⟩ := q
      obtain ⟨i1, i2, i3⟩ := c_args hf h2
      refine ⟨a_cons (hf _ _ h1) i1 (star_each hs'), by show _ + 1 = _; rw [i2]; rfl, fun pos => ?_⟩
      rw [star_each hs']
      exact i3 pos
theorem c_tup (hf : Good M P k W X f) {es : List Expr} {n : Nat} (q : cTup f es = some m) : PE X (.Tuple es n pos) (tE M W (ctx P k) m) := by
  unfold cTup at q
  split at q
  · rename_i hz
    simp only [Option.map_eq_some_iff] at q
    obtain ⟨x, h1, rfl⟩ := q
    obtain ⟨i1, i2, _⟩ := c_args hf h1
    exact e_tup i1 (by rw [i2]; exact hz)
  · cases q
theorem c_lst (hf : Good M P k W X f) {es : List Expr} (q : cLst f es = some m) : PE X (.List es pos) (tE M W (ctx P k) m) := by
  unfold cLst at q
  split at q
  · rename_i hz
    simp only [Option.map_eq_some_iff] at q
    obtain ⟨x, h1, rfl⟩ := q
    obtain ⟨i1, i2, _⟩ := c_args hf h1
    exact e_lst i1 (by rw [i2]; exact hz)
  · cases q
theorem plain_ix {s : Expr} (h : isSlice s = false) : PlainIx s := by
  intro o i
  cases s <;> first | rfl | cases h
theorem c_sub (ok : Cok M P k C W X) (hf : Good M P k W X f) {a s : Expr} (q : cSub f a s = some m) : PE X (.Subscript a s pos) (tE M W (ctx P k) m) := by
  unfold cSub at q
  split at q
  · simp only [Option.bind_eq_some_iff, Option.map_eq_some_iff] at q
    obtain ⟨x, h1, y, h2, z, h3, rfl⟩ := q
    exact e_sl ok.g (hf _ _ h1) (hf _ _ h2) (hf _ _ h3)
  · simp only [Option.bind_eq_some_iff, Option.map_eq_some_iff] at q
    obtain ⟨x, h1, y, h2, rfl⟩ := q
    exact e_slf ok.g (hf _ _ h1) (hf _ _ h2)
  · simp only [Option.bind_eq_some_iff, Option.map_eq_some_iff] at q
    obtain ⟨x, h1, y, h2, rfl⟩ := q
    exact e_slt ok.g (hf _ _ h1) (hf _ _ h2)
  · split at q
    · cases q
    · rename_i hs
      simp only [Option.bind_eq_some_iff, Option.map_eq_some_iff] at q
      obtain ⟨x, h1, y, h2, rfl⟩ := q
      exact e_ix ok.g (hf _ _ h1) (hf _ _ h2) (plain_ix (by simpa using hs))
theorem c_blt (ok : Cok M P k C W X) (hf : Good M P k W X f) {x : Str} {as : List Expr} {p : Pos} (hx : C.blt x = true) (q : cBlt C f x as = some m) : PE X (.Call (.Name x p) as [] pos) (tE M W (ctx P k) m) := by
  obtain ⟨hg, hm, hd, hn⟩ := blt_of ok hx
  unfold cBlt at q
  split at q
  · rename_i a
    split at q
    · cases q
    · rename_i hs
      have s1 : starEach [a] X.env = [(false, eval a X.env)] := star_each (by simpa using hs)
      simp only [Option.bind_eq_some_iff, Option.map_eq_some_iff] at q
      obtain ⟨b, hb, y, h1, rfl⟩ := q
      have hp := hf _ _ h1
      unfold b1Of at hb
      split at hb
      · rename_i e; rw [beq_iff_eq.mp e] at hg hm hn hd ⊢; cases hb
        exact e_b1B ok.g (call_lenV ok.g.hK) hg hm PySem.boot_len hp hn hd s1
      split at hb
      · rename_i e; rw [beq_iff_eq.mp e] at hg hm hn hd ⊢; cases hb
        exact e_b1B ok.g (call_absV ok.g.hK) hg hm (by decide +kernel) hp hn hd s1
      split at hb
      · rename_i e; rw [beq_iff_eq.mp e] at hg hm hn hd ⊢; cases hb
        exact e_b1T ok.g (call_tupleV ok.g.hK) hg hm (by decide +kernel) hp hn hd s1
      split at hb
      · rename_i e; rw [beq_iff_eq.mp e] at hg hm hn hd ⊢; cases hb
        exact e_b1T ok.g (call_listV ok.g.hK) hg hm (by decide +kernel) hp hn hd s1
      split at hb
      · rename_i e; rw [beq_iff_eq.mp e] at hg hm hn hd ⊢; cases hb
        exact e_b1B ok.g (call_allV ok.g.hK ok.g.calm) hg hm (by decide +kernel) hp hn hd s1
      split at hb
      · rename_i e; rw [beq_iff_eq.mp e] at hg hm hn hd ⊢; cases hb
        exact e_b1B ok.g (call_sumV ok.g.hK ok.g.calm) hg hm (by decide +kernel) hp hn hd s1
      split at hb
      · rename_i e; rw [beq_iff_eq.mp e] at hg hm hn hd ⊢; cases hb
        exact e_b1T ok.g (call_intV ok.g.hK) hg hm (by decide +kernel) hp hn hd s1
      · cases hb
  · rename_i a b
    split at q
    · cases q
    · rename_i hs
      simp only [Bool.or_eq_true, not_or, Bool.not_eq_true] at hs
      have s1 : starEach [a, b] X.env = (false, eval a X.env) :: starEach [b] X.env := star_each hs.1
      have s2 : starEach [b] X.env = [(false, eval b X.env)] := star_each hs.2
      split at q
      · rename_i hi
        rw [beq_iff_eq.mp hi] at hg hm hn hd ⊢
        split at q
        · rename_i t tp'
          split at q
          · rename_i ht
            obtain ⟨tg, tm, td, tn⟩ := blt_of ok ht
            simp only [Option.bind_eq_some_iff, Option.map_eq_some_iff] at q
            obtain ⟨tp, h0, y, h1, rfl⟩ := q
            have hv : bootBuiltins t = some (.type (tpN tp)) := by
              unfold tpOf at h0
              split at h0
              · rename_i e; rw [beq_iff_eq.mp e]; cases h0; decide +kernel
              split at h0
              · rename_i e; rw [beq_iff_eq.mp e]; cases h0; decide +kernel
              split at h0
              · rename_i e; rw [beq_iff_eq.mp e]; cases h0; decide +kernel
              split at h0
              · rename_i e; rw [beq_iff_eq.mp e]; cases h0; decide +kernel
              split at h0
              · rename_i e; rw [beq_iff_eq.mp e]; cases h0; decide +kernel
              · cases h0
            exact e_isi ok.g hg hm (by decide +kernel) (hf _ _ h1) (pe_bltn tg tm hv rfl tn td) s1 s2
          · cases q
        · cases q
      · simp only [Option.bind_eq_some_iff, Option.map_eq_some_iff] at q
        obtain ⟨o, h0, y, h1, z, h2, rfl⟩ := q
        unfold b2Of at h0
        split at h0
        · rename_i e; rw [beq_iff_eq.mp e] at hg hm hn hd ⊢; cases h0
          exact e_b2B ok.g (call_min2V ok.g.hK ok.g.calm) hg hm (by decide +kernel) (hf _ _ h1) (hf _ _ h2) hn hd s1 s2
        split at h0
        · rename_i e; rw [beq_iff_eq.mp e] at hg hm hn hd ⊢; cases h0
          exact e_b2B ok.g (call_max2V ok.g.hK ok.g.calm) hg hm (by decide +kernel) (hf _ _ h1) (hf _ _ h2) hn hd s1 s2
        · cases h0
  · cases q
theorem c_pairs (hf : Good M P k W X f) : ∀ {keys : List (Option Expr)} {values : List Expr} {ks : List Str} {m : E}, cKeys keys = some ks → cArgs f values = some m → keys.length = values.length →
    ∃ trs, PPs X pos keys values trs ∧ PRd M W (ctx P k) ks m trs ∧ (∀ p ∈ trs, (∃ k : Str, p.1 = tC (.str k)) ∧ ∃ m, p.2 = tE M W (ctx P k) m) ∧ keys.all (·.isSome) = true ∧ ks.length = keys.length ∧ ∀ k ∈ ks, PyData.strOk k = true
  | [], [], _, _, q1, q2, _ => by
    cases q1
    cases q2
    exact ⟨[], pps_nil, rd_nil, fun _ h => absurd h (by simp), rfl, rfl, fun _ h => absurd h (by simp)⟩
  | [], _ :: _, _, _, _, _, hl => by simp at hl
  | _ :: _, [], _, _, _, _, hl => by simp at hl
  | key :: keys, v :: values, _, _, q1, q2, hl => by
    unfold cKeys at q1
    split at q1
    · rename_i e; cases e
    · rename_i x u p r e
      cases e
      split at q1
      · rename_i hx
        simp only [Option.map_eq_some_iff] at q1
        obtain ⟨ks, q1, rfl⟩ := q1
        unfold cArgs at q2
        split at q2
        · cases q2
        · rename_i hs
          simp only [Option.bind_eq_some_iff, Option.map_eq_some_iff] at q2
          obtain ⟨a, h1, b, h2, rfl⟩ := q2
          obtain ⟨trs, i1, i2, i3, i4, i5, i6⟩ := c_pairs hf q1 h2 (by simpa using hl)
          refine ⟨(tC (.str x), tE M W (ctx P k) a) :: trs, pps_cons pe_str (hf _ _ h1) i1, rd_cons i2 (tpm i3), fun p hp => ?_, by simpa using i4, by simp [i5], fun k hk => ?_⟩
          · rcases List.mem_cons.mp hp with rfl | hp
            · exact ⟨⟨_, rfl⟩, _, rfl⟩
            · exact i3 p hp
          · rcases List.mem_cons.mp hk with rfl | hk
            · exact hx
            · exact i6 k hk
      · cases q1
    · cases q1
theorem c_dct (hf : Good M P k W X f) {keys : List (Option Expr)} {values : List Expr} (q : cDct f keys values = some m) : PE X (.Dict keys values pos) (tE M W (ctx P k) m) := by
  unfold cDct at q
  split at q
  · rename_i hc
    rw [Bool.and_eq_true, beq_iff_eq, decide_eq_true_eq] at hc
    simp only [Option.bind_eq_some_iff, Option.map_eq_some_iff] at q
    obtain ⟨ks, h1, y, h2, rfl⟩ := q
    by_cases h0 : keys = []
    · subst h0
      cases h1
      have hv : values = [] := List.length_eq_zero_iff.mp hc.1.symm
      subst hv
      cases h2
      refine pe_dnewK.impT fun σ H Q ⟨F, ρ, e, h, A, a⟩ p hp => ?_
      simp only [evE, evA, thenA, List.length_nil, List.nodup_nil, and_self, if_true, List.map_nil, List.zip_nil_left] at a
      exact a (.ref p) ρ _ ((Ext.upd hp).step ρ) ⟨p, [], rfl, hp, A.notin hp, upd_same, A.shut (Ext.upd hp) hp upd_same, .nil⟩
    · obtain ⟨trs, i1, i2, i3, i4, i5, i6⟩ := c_pairs (pos := pos) hf h1 h2 hc.1
      exact e_dct i1 i2 (tpm i3) i4 hc.1 h0 hc.2 i5 i6
  · cases q
end
end
end Tc

/-! Tc: calls, targets, what is walked, comprehensions; all expressions. -/
namespace Tc
open PySem L2
section
variable {M : Mo} {P : Prog} {k : Nat} {C : Cc} {W : WX} {X : Cx} {fE : Cc → Expr → Option E}
section
variable {f : Expr → Option E} {m : E} {pos : Pos}
theorem c_call (ok : Cok M P k C W X) (hf : Good M P k W X f) {fn : Expr} {as : List Expr} {ks : List Keyword} (q : cCall C f fn as ks pos = some m) : PE X (.Call fn as ks pos) (tE M W (ctx P k) m) := by
  unfold cCall at q
  split at q
  · rename_i x p
    split at q
    · rename_i hb
      exact c_blt ok hf hb q
    · split at q
      · rename_i hg
        obtain ⟨g1, g2, g3⟩ := gl_of ok hg
        simp only [Option.bind_eq_some_iff] at q
        obtain ⟨n, h1, y, h2, q⟩ := q
        split at q
        · rename_i hl
          obtain ⟨i1, i2, i3⟩ := c_args hf h2
          obtain ⟨a, fd, ps, d1, d2, d3, d4⟩ := ok.defs x n h1
          have hl' : y.alen = n := beq_iff_eq.mp hl
          have key : PE X (.Call (.Name x p) as [] pos) (tE M W (ctx P k) (.call x y)) := by
           cases as with
           | nil =>
            cases h2
            have e0 : n = 0 := hl'.symm
            subst e0
            exact e_call0 ok.g d4 ok.room g1 d1 d2 d3 g2
           | cons a as =>
            have hs : starEach (a :: as) X.env = (false, eval a X.env) :: starEach as X.env := by
              unfold cArgs at h2
              split at h2
              · cases h2
              · rename_i hs
                exact star_each (by simpa using hs)
            have hp : (backTo pos (starEach as X.env)).any (·.1) = false := by
              have z := i3 pos
              rw [hs] at z
              simpa [backTo] using z
            exact e_call ok.g d4 ok.room g1 d1 d2 d3 i1 hl' g2 hs hp
          rw [Option.some.injEq] at q
          subst q
          split
          · exact e_obj key
          · exact key
        · cases q
      · cases q
  · rename_i o mm apos
    split at q
    · rename_i hc
      simp only [Bool.and_eq_true, decide_eq_true_eq] at hc
      simp only [Option.bind_eq_some_iff, Option.map_eq_some_iff] at q
      obtain ⟨me, h0, x, h1, y, h2, rfl⟩ := q
      obtain ⟨i1, i2, i3⟩ := c_args hf h2
      have ho := hf _ _ h1
      have hbase : attributeBase o mm X.env (eval o X.env) = eval o X.env := by
        cases o <;> first | rfl | (exact absurd hc.1.2 (by simp [isName]))
      have one : ∀ {n : Nat}, as.length = n + 1 → ∃ b r, as = b :: r ∧ starEach (b :: r) X.env = (false, eval b X.env) :: starEach r X.env ∧ (backTo pos (starEach r X.env)).any (·.1) = false ∧
          ((backTo pos (starEach (b :: r) X.env)).all (fun x => !x.1) && (backToKw pos (keywordEach [] X.env)).all (fun x => x.1.isSome)
      && decide ((b :: r).length + ([] : List Keyword).length + (if ([] : List Keyword).isEmpty then 0 else 1) < 30)) = true := by
        intro n hn
        cases as with
        | nil => cases hn
        | cons b r =>
          have hs : isStar b = false := by
            unfold cArgs at h2
            split at h2
            · cases h2
            · rename_i hs
              simpa using hs
          have hr : r = [] := List.eq_nil_of_length_eq_zero (by have := hc.2; simp only [List.length_cons] at this; omega)
          subst hr
          exact ⟨b, [], rfl, star_each hs, rfl, by rw [star_each hs]; rfl⟩
      unfold metOf at h0
      split at h0
      · rename_i e
        rw [Bool.and_eq_true] at e
        rw [beq_iff_eq.mp e.1] at hbase ⊢
        cases h0
        obtain ⟨b, r, rfl, s1, s2, s3⟩ := one (beq_iff_eq.mp e.2)
        exact e_met ok.g (recv_list ok.g fun _ _ => rfl) PySem.F.plainAttrs_list PySem.F.slot_list_append PySem.F.type_list_append m_append ho i1 hbase s3 hc.1.1 s1 s2
      split at h0
      · rename_i e
        rw [Bool.and_eq_true] at e
        rw [beq_iff_eq.mp e.1] at hbase ⊢
        cases h0
        obtain ⟨b, r, rfl, s1, s2, s3⟩ := one (beq_iff_eq.mp e.2)
        exact e_met ok.g (recv_list ok.g fun _ _ => rfl) PySem.F.plainAttrs_list PySem.F.slot_list_extend PySem.F.type_list_extend m_extend ho i1 hbase s3 hc.1.1 s1 s2
      split at h0
      · rename_i e
        rw [Bool.and_eq_true] at e
        rw [beq_iff_eq.mp e.1] at hbase ⊢
        cases h0
        have z : as = [] := List.eq_nil_of_length_eq_zero (beq_iff_eq.mp e.2)
        subst z
        cases h2
        exact e_met0 ok.g (recv_list ok.g fun _ _ => rfl) PySem.F.plainAttrs_list PySem.F.slot_list_pop PySem.F.type_list_pop m_pop ho hbase hc.1.1
      split at h0
      · rename_i e
        rw [Bool.and_eq_true] at e
        rw [beq_iff_eq.mp e.1] at hbase ⊢
        cases h0
        obtain ⟨b, r, rfl, s1, s2, s3⟩ := one (beq_iff_eq.mp e.2)
        exact e_met ok.g (recv_str fun h d q => by cases d <;> first | exact ⟨_, rfl⟩ | cases q) PySem.F.plainAttrs_str PySem.F.slot_str_startswith PySem.F.type_str_startswith m_startswith ho i1 hbase s3 hc.1.1 s1 s2
      · cases h0
    · cases q
  · cases q
end
/-! ### targets -/
theorem assign_each {a : Expr} {es : List Expr} {env : PySem.Env} (h : isStar a = false) : assignEach (a :: es) env = (false, assign a env) :: assignEach es env := by
  cases a <;> first | rfl | cases h
theorem c_targets (ok : Cok M P k C W X) {f : Expr → Option T} (hf : ∀ (tg : Expr) (t : T), f tg = some t → PG X tg (gT M t)) : ∀ (es : List Expr) (t : T), cTsW f es = some t → PGs X es (gTs M t) ∧ (assignEach es X.env).length = t.tlen ∧ (assignEach es X.env).findIdx? (·.1) = none
  | [], t, q => by
    cases q
    exact ⟨gs_nil, rfl, rfl⟩
  | e :: r, t, q => by
    unfold cTsW at q
    split at q
    · cases q
    · rename_i hs
      have hs' : isStar e = false := by simpa using hs
      simp only [Option.bind_eq_some_iff, Option.map_eq_some_iff] at q
      obtain ⟨t, h1, u, h2, rfl⟩ := q
      obtain ⟨i1, i2, i3⟩ := c_targets ok hf r u h2
      refine ⟨gs_cons (hf _ _ h1) i1 (by rw [assign_each hs']; rfl), ?_, ?_⟩
      · rw [assign_each hs', List.length_cons, i2]; rfl
      · rw [assign_each hs']
        simp [List.findIdx?_cons, i3]
theorem c_target (ok : Cok M P k C W X) : ∀ (n : Nat) (tg : Expr) (t : T), cT C n tg = some t → PG X tg (gT M t)
  | 0, tg, t, q => by cases q
  | n + 1, tg, t, q => by
    unfold cT at q
    split at q
    · rename_i x p
      split at q
      · rename_i h
        cases q
        simp only [Bool.and_eq_true, Bool.or_eq_true, beq_iff_eq] at h
        unfold Cc.kind at h
        rw [← ok.hsc] at h
        refine g_v (pg_name ok.g.nd (by rw [ok.hN]; exact h.2) ?_ ?_)
        · rcases h.1 with z | z
          · exact .inl z
          · exact .inr z.2
        · rcases h.1 with z | z
          · exact .inr z
          · exact .inl (ok.fnok z.1 x)
      · cases q
    · simp only [Option.map_eq_some_iff] at q
      obtain ⟨u, h1, rfl⟩ := q
      obtain ⟨i1, i2, i3⟩ := c_targets ok (c_target ok n) _ _ h1
      exact g_tp ok.g i1 i2 i3
    · cases q
theorem tup_of {e : Expr} (h : isTupE e = true) : ∃ es n p, e = .Tuple es n p := by
  cases e <;> first | exact ⟨_, _, _, rfl⟩ | cases h
theorem fold_set {it : Expr} {env : PySem.Env} (h : isSet it = false) : ∀ x, foldedSetIterable it env x = pure x := by
  intro x
  cases it <;> first | rfl | cases h
section
variable {f : Expr → Option E} {m : E} {pos : Pos}
theorem c_iter (ok : Cok M P k C W X) (hf : Good M P k W X f) {tg it : Expr} (q : cI C f tg it = some m) : PI X tg it (tI M W (ctx P k) m) := by
  have seq : ∀ {m : E}, (f it).map E.iseq = some m → PI X tg it (tI M W (ctx P k) m) := fun {m} q => by
    simp only [Option.map_eq_some_iff] at q
    obtain ⟨x, h1, rfl⟩ := q
    exact i_seq ok.g (hf _ _ h1)
  unfold cI at q
  split at q
  · rename_i x p as pos
    split at q
    · rename_i hx
      obtain ⟨hg, hm, hd, hn⟩ := blt_of ok hx
      split at q
      · rename_i e
        rw [beq_iff_eq.mp e] at hg hm ⊢
        split at q
        · rename_i a
          split at q
          · cases q
          · rename_i hs
            simp only [Option.map_eq_some_iff] at q
            obtain ⟨y, h1, rfl⟩ := q
            exact i_rng1 ok.g hg hm (hf _ _ h1) (star_each (by simpa using hs))
        · rename_i a b
          split at q
          · cases q
          · rename_i hs
            simp only [Bool.or_eq_true, not_or, Bool.not_eq_true] at hs
            simp only [Option.bind_eq_some_iff, Option.map_eq_some_iff] at q
            obtain ⟨y, h1, z, h2, rfl⟩ := q
            exact i_rng2 ok.g hg hm (hf _ _ h1) (hf _ _ h2) (star_each hs.1) (star_each hs.2)
        · rename_i a b c
          split at q
          · cases q
          · rename_i hs
            simp only [Bool.or_eq_true, not_or, Bool.not_eq_true] at hs
            simp only [Option.bind_eq_some_iff, Option.map_eq_some_iff] at q
            obtain ⟨y, h1, z, h2, w, h3, rfl⟩ := q
            exact i_rng3 ok.g hg hm (hf _ _ h1) (hf _ _ h2) (hf _ _ h3) (star_each hs.1.1) (star_each hs.1.2) (star_each hs.2)
        · cases q
      split at q
      · rename_i e
        rw [beq_iff_eq.mp e] at hg hm ⊢
        split at q
        · rename_i a
          split at q
          · cases q
          · rename_i hs
            simp only [Bool.or_eq_true, not_or, Bool.not_eq_true, Bool.not_eq_false'] at hs
            simp only [Option.map_eq_some_iff] at q
            obtain ⟨y, h1, rfl⟩ := q
            obtain ⟨es, n, p, rfl⟩ := tup_of hs.2
            exact i_enum ok.g hg hm (hf _ _ h1) (star_each hs.1)
        · cases q
      split at q
      · rename_i e
        rw [beq_iff_eq.mp e] at hg hm ⊢
        split at q
        · rename_i a b
          split at q
          · cases q
          · rename_i hs
            simp only [Bool.or_eq_true, not_or, Bool.not_eq_true, Bool.not_eq_false'] at hs
            simp only [Option.bind_eq_some_iff, Option.map_eq_some_iff] at q
            obtain ⟨y, h1, z, h2, rfl⟩ := q
            obtain ⟨es, n, p, rfl⟩ := tup_of hs.2
            exact i_zip ok.g hg hm (hf _ _ h1) (hf _ _ h2) (star_each hs.1.1) (star_each hs.1.2)
        · cases q
      · exact seq q
    · exact seq q
  · split at q
    · cases q
    · exact seq q
end
/-! ### comprehensions -/
theorem ok_blk (ok : Cok M P k C W X) {scope : Scope} {s : Shared} {H : Hp} {D : Addr} {cl : List (Str × Addr)} {fp : List Addr} :
    Cok M P k { C with sc := relS scope C.sc, top := false } W0 (X.blk s H scope (compEnvC scope cl D X.env) fp) where
  g := ⟨ok.g.hK, ok.g.nd, ok.g.calm, takes0, ok.g.hu⟩
  hsc := by
    show relS scope X.env.scope = relS scope C.sc
    rw [ok.hsc]
  hN := ok.hN
  room := ok.room
  defs := ok.defs
  csts := ok.csts
  blts := ok.blts
  fnok := fun h => by cases h
theorem c_lc (fr : ∀ C W X e m, Cok M P k C W X → fE C e = some m → PE X e (tE M W (ctx P k) m)) (ft : ∀ C W X e m, Cok M P k C W X → fE C e = some m → isT 9 e = true → PT X e (eT M W (ctx P k) m))
    (ok : Cok M P k C W X) {elt : Expr} {gs : List Comprehension} {scope : Scope} {m : E} (q : cLc C fE elt gs scope = some m) :
    ∃ tg it ifs, gs = [⟨tg, it, ifs, 0⟩] ∧ ∃ (wi : TI) (gg : TG) (tt : TT) (te : TE), PI X tg it wi ∧ BlkOk X.N X.env.scope scope (ownOf C.N scope) ∧
      (∀ (s : Shared) (H : Hp) (D : Addr) (cl : List (Str × Addr)) (fp : List Addr), PG (X.blk s H scope (compEnvC scope cl D X.env) fp) tg gg) ∧ (∀ (s : Shared) (H : Hp) (D : Addr) (cl : List (Str × Addr)) (fp : List Addr), PTs (X.blk s H scope (compEnvC scope cl D X.env) fp) ifs tt) ∧
      (∀ (s : Shared) (H : Hp) (D : Addr) (cl : List (Str × Addr)) (fp : List Addr), PE (X.blk s H scope (compEnvC scope cl D X.env) fp) elt te) ∧ (∀ x, foldedSetIterable it X.env x = pure x) ∧ ∀ σ H Q, tE M W (ctx P k) m σ H Q → tLc wi gg tt te ((ownOf C.N scope).map (·.2)) σ H Q := by
  unfold cLc at q
  split at q
  · rename_i tg it ifs
    refine ⟨tg, it, ifs, rfl, ?_⟩
    dsimp only at q
    split at q
    · rename_i hb
      rw [Bool.and_eq_true] at hb
      simp only [Option.bind_eq_some_iff] at q
      obtain ⟨i, h1, t, h2, q⟩ := q
      split at q
      · rename_i hs
        have hv : ∀ j ∈ t.slots, j ∈ (ownOf C.N scope).map (·.2) := fun j hj => by
          have z := List.all_eq_true.mp hs j hj
          simpa using z
        have hi := c_iter ok (fun e m q => fr C W X e m ok q) h1
        have hbk : BlkOk X.N X.env.scope scope (ownOf C.N scope) := by
          rw [ok.hN, ok.hsc]
          exact blkOk_by hb.1
        have hfs := fold_set (env := X.env) (it := it) (by simpa using hb.2)
        split at q
        · simp only [Option.map_eq_some_iff] at q
          obtain ⟨y, h3, rfl⟩ := q
          exact ⟨_, _, _, _, hi, hbk, fun s H D cl fp => c_target (ok_blk ok) 9 tg t h2, fun _ _ _ _ _ => pts_nil, fun s H D cl fp => fr _ _ _ _ _ (ok_blk ok) h3, hfs, fun σ H Q z => lc_read hv z⟩
        · rename_i c
          split at q
          · rename_i hc
            simp only [Option.bind_eq_some_iff, Option.map_eq_some_iff] at q
            obtain ⟨x, h3, y, h4, rfl⟩ := q
            exact ⟨_, _, _, _, hi, hbk, fun s H D cl fp => c_target (ok_blk ok) 9 tg t h2, fun s H D cl fp => pts_one (ft _ _ _ _ _ (ok_blk ok) h3 hc), fun s H D cl fp => fr _ _ _ _ _ (ok_blk ok) h4, hfs, fun σ H Q z => lcc_read hv z⟩
          · cases q
        · cases q
      · cases q
    · cases q
  · cases q
/-! ### all expressions -/
theorem t_bool {f : Expr → Option E} {pos : Pos} {op : BoolOp} {j : Nat} (hf : ∀ e m, f e = some m → isT j e = true → PT X e (eT M W (ctx P k) m)) : ∀ {vs : List Expr} {m : E}, cBool f op vs = some m → vs.all (isT j) = true → PW X (.BoolOp op vs pos) (eT M W (ctx P k) m)
  | [], _, q, _ => by cases q
  | [a], _, q, z => by
    have z' : isT j a = true := by simpa using z
    cases op with
    | And => exact pw_and1 (hf _ _ q z')
    | Or => exact pw_or1 (hf _ _ q z')
  | a :: b :: r, _, q, z => by
    unfold cBool at q
    simp only [Option.bind_eq_some_iff, Option.map_eq_some_iff] at q
    obtain ⟨x, h1, y, h2, rfl⟩ := q
    rw [List.all_cons, Bool.and_eq_true] at z
    have ih := t_bool (pos := pos) hf h2 z.2
    cases op with
    | And => exact (pw_and (hf _ _ h1 z.1) ih).impT fun σ H Q q => and_read q
    | Or => exact (pw_or (hf _ _ h1 z.1) ih).impT fun σ H Q q => or_read q
theorem pt_val' {e : Expr} {m : E} (h : PE X e (tE M W (ctx P k) m)) (he : ∀ whole, isTrue e X.env whole = (do let v ← whole; standAt e.pos; holding [v] (truthy v))) : PT X e (eT M W (ctx P k) m) := pt_val h he
theorem c_all : ∀ (n : Nat), (∀ C W X e m, Cok M P k C W X → cE n C e = some m → PE X e (tE M W (ctx P k) m)) ∧ ∀ C W X e m, Cok M P k C W X → cE n C e = some m → ∀ j, isT j e = true → PT X e (eT M W (ctx P k) m)
  | 0 => ⟨(fun _ _ _ _ _ _ q => nomatch q), (fun _ _ _ _ _ _ q => nomatch q)⟩
  | n + 1 => by
    obtain ⟨ih, iht⟩ := c_all n
    have pe : ∀ C W X e m, Cok M P k C W X → cE (n + 1) C e = some m → PE X e (tE M W (ctx P k) m) := by
      intro C W X e m ok q
      have hf : Good M P k W X (cE n C) := fun e m q => ih C W X e m ok q
      unfold cE at q
      cases h0 : cE1 (cE n) C e with
      | none => rw [h0] at q; cases q; exact e_stuck
      | some m' =>
      rw [h0] at q
      obtain rfl : m' = m := by simpa using q
      clear q
      have q := h0
      unfold cE1 at q
      split at q
      · exact c_name ok q
      · exact c_const q
      · exact c_bin ok hf q
      · exact c_un ok hf q
      · exact c_bool hf q
      · exact c_cmp ok hf q
      · exact c_call ok hf q
      · exact c_tup hf q
      · exact c_lst hf q
      · exact c_sub ok hf q
      · rename_i elt gs scope pos
        obtain ⟨tg, it, ifs, rfl, wi, gg, tt, te, h1, h2, h3, h4, h5, h6, h7⟩ := c_lc (fE := cE n) ih (fun C W X e m ok q z => iht C W X e m ok q 9 z) ok q
        exact (pe_lc ok.g.calm ok.g.nd h1 h2 h3 h4 h5 h6).impT h7
      · exact c_dct hf q
      · cases q
    refine ⟨pe, fun C W X e m ok q j hj => ?_⟩
    have pe' := pe C W X e m ok q
    have hf : Good M P k W X (cE n C) := fun e m q => ih C W X e m ok q
    cases j with
    | zero => cases hj
    | succ j =>
      unfold cE at q
      cases h0 : cE1 (cE n) C e with
      | none => rw [h0] at q; cases q; exact t_stuck
      | some m' =>
      rw [h0] at q
      obtain rfl : m' = m := by simpa using q
      clear q
      have q := h0
      unfold isT at hj
      split at hj
      · unfold cE1 at q
        exact t_cmp' ok hf q
      · unfold cE1 at q
        exact (t_bool (fun e m q z => iht C W X e m ok q j z) q hj).pt
      · unfold cE1 at q
        unfold cUn at q
        simp only [Option.map_eq_some_iff] at q
        obtain ⟨x, h1, rfl⟩ := q
        exact (pt_not (iht C W X _ _ ok h1 j hj)).impT fun σ H Q q => not_read q
      · exact pt_val' pe' (by intro _; rfl)
      · exact pt_val' pe' (by intro _; rfl)
      · exact pt_val' pe' (by intro _; rfl)
      · cases hj
end
end Tc

/-! Tc: statements, from the kit's syntax to ours. -/
namespace Tc
open PySem L2
def isComp : Expr → Bool
  | .ListComp .. | .SetComp .. | .DictComp .. => true
  | _ => false
def cSs (f : Stmt → Option S) : List Stmt → Option S
  | [] => some .nil
  | s :: r => (f s).bind fun x => (cSs f r).map fun y => .cons x y
def Cc.slot (C : Cc) (x : Str) : Option Nat := if (C.kind x == some .local || C.kind x == some .cell) && C.N[C.N.idxOf x]? == some x then some (C.N.idxOf x) else none
def Cc.tgt (C : Cc) (x : Str) (i : Nat) : T := if C.mu.contains x then .m i else .v i
/-- does the machine change the order of a comprehension's stores -/
def swB (C : Cc) (x : Str) (p2 : Pos) (scope : Scope) (lp : Pos) : Bool := C.kind x == some .local && p2.line == lp.line && !(scope.names.any fun (n, k) => n == x && (k == .local || k == .cell))
def parOk (C : Cc) (x y : Str) (px py : Pos) (vs : List Expr) : Bool :=
  C.kind x == some .local && C.kind y == some .local && py.line == px.line && !(x == y) && !(y == x) && !(vs.any isStar) && !(vs.all (foldedForSure 8)) && !(vs.all (constantsAlone 8))
def cS1 (fe : Cc → Expr → Option E) (cS : Cc → Stmt → Option S) (C : Cc) (st : Stmt) : Option S := match st with
  | .Pass _ => some .pass
  | .Return none _ => some .retn
  | .Return (some e) _ => (fe C e).map .ret
  | .Expr e _ => if isComp e then none else (fe C e).map .expr
  | .If c a b _ => if isT 9 c then (fe C c).bind fun x => (cSs (cS C) a).bind fun y => (cSs (cS C) b).map fun z => .ifs x y z else none
  | .While c b [] _ => if isT 9 c then (fe C c).bind fun x => (cSs (cS C) b).map fun y => .whl x y else none
  | .For tg it b [] _ => if isSet it then none else (cI C (fe C) tg it).bind fun i => (cT C 9 tg).bind fun t => (cSs (cS C) b).map fun y => .fr t i y
  | .AugAssign (.Name x _) .Add e _ => (C.slot x).bind fun i => (fe C e).map fun y => .aug i .add y
  | .Assign [.Name x p2] e _ => (C.slot x).bind fun i => match e with
      | .ListComp elt gs scope lp => (cLc C fe elt gs scope).map fun y => .set (C.tgt x i) y
      | e => if isComp e then none else (fe C e).map fun y => .set (C.tgt x i) y
  | .Assign [.Tuple ts tk tp] e _ => match ts, e with
      | [.Name x px, .Name y py], .Tuple [a, b] _ _ => if parOk C x y px py [a, b] then (C.slot x).bind fun i => (C.slot y).bind fun j => if i ≠ j then (fe C a).bind fun u => (fe C b).map fun v => .par i j u v else none else none
      | ts, e => if isTupE e || isComp e then none else (cT C 9 (.Tuple ts tk tp)).bind fun t => (fe C e).map fun y => .set t y
  | .Assign [.Subscript o i _] e _ => if isSlice i || isComp e then none else (fe C e).bind fun x => (fe C o).bind fun y => (fe C i).map fun z => .setix y z x
  | _ => none

def cS (fe : Cc → Expr → Option E) : Nat → Cc → Stmt → Option S
  | 0, _, _ => none
  | n + 1, C, st => some ((cS1 fe (cS fe n) C st).getD (.expr .anil))

section
variable {M : Mo} {P : Prog} {k : Nat} {C : Cc} {W : WX} {X : Cx}
theorem slot_of (ok : Cok M P k C W X) {x : Str} {i : Nat} (q : C.slot x = some i) : X.N[i]? = some x ∧ Loc X.env.scope x := by
  unfold Cc.slot at q
  split at q
  · rename_i h
    cases q
    simp only [Bool.and_eq_true, Bool.or_eq_true, beq_iff_eq] at h
    unfold Cc.kind at h
    rw [← ok.hsc] at h
    exact ⟨by rw [ok.hN]; exact h.2, h.1⟩
  · cases q
theorem tgt_of (C : Cc) (x : Str) (i : Nat) : C.tgt x i = .v i ∨ C.tgt x i = .m i := by
  unfold Cc.tgt
  split
  · exact .inr rfl
  · exact .inl rfl
theorem sw_none {e : Expr} {t : Option Expr} {l : Nat} {env : PySem.Env} (h : isComp e = false) : swapsWith e t l env = pure false := by
  cases e <;> first | rfl | cases h
theorem sw_sole {e tg : Expr} {l : Nat} {env : PySem.Env} (h : isComp e = false) : swapsWithSole [tg] e l env = pure false := by
  cases e <;> first | rfl | cases h
theorem sw_lc {elt : Expr} {gs : List Comprehension} {scope : Scope} {x : Str} {p2 lp : Pos} {l : Nat} {env : PySem.Env} (hk : env.scope.kind = .function) :
    swapsWith (.ListComp elt gs scope lp) (some (.Name x p2)) l env = pure (env.kindOf x == some .local && p2.line == lp.line && !(scope.names.any fun (n, k) => n == x && (k == .local || k == .cell))) := by
  have hb : env.blockKind = .function := by unfold PySem.Env.blockKind; rw [hk]; rfl
  unfold swapsWith
  simp only [hb, Expr.pos]
  rfl
theorem swapped_none {tg e : Expr} {env : PySem.Env} (h : isTupE e = false) : swappedStores [tg] e env = pure none := by
  unfold swappedStores
  cases tg <;> cases e <;> first | rfl | cases h
theorem swapped_sub {o i : Expr} {p : Pos} {e : Expr} {env : PySem.Env} : swappedStores [.Subscript o i p] e env = pure none := by
  unfold swappedStores
  cases e <;> rfl
theorem swapped_par {x y : Str} {px py pt : Pos} {kt k2 : Nat} {pt2 : Pos} {a b : Expr} {env : PySem.Env} (hk : env.scope.kind = .function) (hx : env.kindOf x = some .local) (hy : env.kindOf y = some .local) (hl : (py.line == px.line) = true) (hn : (x == y) = false) (hn2 : (y == x) = false)
    (h1 : ([a, b].any isStar) = false) (h2 : ([a, b].all (foldedForSure 8)) = false) (h3 : ([a, b].all (constantsAlone 8)) = false) :
    swappedStores [.Tuple [.Name x px, .Name y py] kt pt] (.Tuple [a, b] k2 pt2) env = pure (some [x, y]) := by
  have hb : env.blockKind = .function := by unfold PySem.Env.blockKind; rw [hk]; rfl
  have h1' : ([a, b].any fun | .Starred .. => true | _ => false) = false := by
    have e : (fun (z : Expr) => match z with | .Starred .. => true | _ => false) = isStar := by
      funext z
      cases z <;> rfl
    exact (congrArg [a, b].any e).trans h1
  unfold swappedStores
  simp only [List.length_cons, List.length_nil, hb, bne_self_eq_false, Bool.or_false, List.head?_cons, Option.map_some, Option.getD_some, Expr.pos, List.filterMap_cons, List.filterMap_nil, hx, hy, beq_self_eq_true, Bool.true_and, if_true, hl, h2, h3]
  have hd : [x, y].eraseDups = [x, y] := by simp [List.eraseDups_cons, hn, hn2]
  refine (if_neg (by decide)).trans ?_
  refine (if_neg fun z => Bool.false_ne_true (h1'.symm.trans z)).trans ?_
  rw [hd]
  rfl
/-- where statements run -/
structure Sok (C : Cc) (X : Cx) : Prop where
  top : C.top = true
  kind : X.env.scope.kind = .function
  pass : PassesOwn (model X.prog X.w) X.A X.env X.xe
theorem c_block {f : Stmt → Option S} (hf : ∀ st m, f st = some m → PS X st (tS M W (ctx P k) m)) : ∀ {sts : List Stmt} {m : S}, cSs f sts = some m → PSs X sts (tS M W (ctx P k) m)
  | [], _, q => by cases q; exact s_nil
  | s :: r, _, q => by
    unfold cSs at q
    simp only [Option.bind_eq_some_iff, Option.map_eq_some_iff] at q
    obtain ⟨x, h1, y, h2, rfl⟩ := q
    exact s_cons (hf _ _ h1) (c_block hf h2)
variable {fe : Cc → Expr → Option E}
theorem c_stmt (fr : ∀ C W X e m, Cok M P k C W X → fe C e = some m → PE X e (tE M W (ctx P k) m)) (ft : ∀ C W X e m, Cok M P k C W X → fe C e = some m → isT 9 e = true → PT X e (eT M W (ctx P k) m)) :
    ∀ (n : Nat) (C : Cc) (W : WX) (X : Cx) (st : Stmt) (m : S), Cok M P k C W X → Sok C X → cS fe n C st = some m → PS X st (tS M W (ctx P k) m)
  | 0, _, _, _, _, _, _, _, q => nomatch q
  | n + 1, C, W, X, st, m, ok, so, q => by
    have ih := fun st m q => c_stmt fr ft n C W X st m ok so q
    have hf : Good M P k W X (fe C) := fun e m q => fr C W X e m ok q
    have hfn : ∀ x, X.fn x = true := ok.fnok so.top
    unfold cS at q
    cases h0 : cS1 fe (cS fe n) C st with
    | none => rw [h0] at q; cases q; exact s_stuck
    | some m' =>
    rw [h0] at q
    obtain rfl : m' = m := by simpa using q
    clear q
    have q := h0
    unfold cS1 at q
    split at q
    · cases q; exact s_pass
    · cases q; exact s_retn
    · simp only [Option.map_eq_some_iff] at q
      obtain ⟨x, h1, rfl⟩ := q
      exact s_ret (hf _ _ h1)
    · split at q
      · cases q
      · rename_i hc
        simp only [Option.map_eq_some_iff] at q
        obtain ⟨x, h1, rfl⟩ := q
        exact s_expr (hf _ _ h1) (sw_none (by simpa using hc))
    · split at q
      · rename_i hc
        simp only [Option.bind_eq_some_iff, Option.map_eq_some_iff] at q
        obtain ⟨x, h1, y, h2, z, h3, rfl⟩ := q
        exact s_if (ft _ _ _ _ _ ok h1 hc) (c_block ih h2) (c_block ih h3)
      · cases q
    · split at q
      · rename_i hc
        simp only [Option.bind_eq_some_iff, Option.map_eq_some_iff] at q
        obtain ⟨x, h1, y, h2, rfl⟩ := q
        exact s_while so.pass (ft _ _ _ _ _ ok h1 hc) (c_block ih h2)
      · cases q
    · split at q
      · cases q
      · rename_i hs
        simp only [Option.bind_eq_some_iff, Option.map_eq_some_iff] at q
        obtain ⟨i, h1, t, h2, y, h3, rfl⟩ := q
        exact s_for ok.g so.pass (c_iter ok hf h1) (c_target ok 9 _ _ h2) (c_block ih h3) (fold_set (by simpa using hs))
    · simp only [Option.bind_eq_some_iff, Option.map_eq_some_iff] at q
      obtain ⟨i, h1, y, h2, rfl⟩ := q
      obtain ⟨s1, s2⟩ := slot_of ok h1
      exact s_aug ok.g s1 s2 (hf _ _ h2) (.inl (hfn _))
    · rename_i x p2 e pos
      simp only [Option.bind_eq_some_iff] at q
      obtain ⟨i, h1, q⟩ := q
      obtain ⟨s1, s2⟩ := slot_of ok h1
      split at q
      · rename_i elt gs scope lp
        simp only [Option.map_eq_some_iff] at q
        obtain ⟨y, h2, rfl⟩ := q
        obtain ⟨tg, it, ifs, rfl, wi, gg, tt, te, l1, l2, l3, l4, l5, l6, l7⟩ := c_lc fr ft ok h2
        cases hsw : (X.env.kindOf x == some .local && p2.line == lp.line && !(scope.names.any fun (n, k) => n == x && (k == .local || k == .cell))) with
        | true =>
          have hl : X.env.scope.names.lookup x = some .local := by
            simp only [Bool.and_eq_true, beq_iff_eq] at hsw
            exact hsw.1.1
          exact s_setLc ok.g (tgt_of C x i) s1 hl (by rw [sw_lc so.kind, hsw]) l1 l2 l3 l4 l5 l6 l7
        | false =>
          exact s_set ok.g (tgt_of C x i) s1 s2 ((pe_lc ok.g.calm ok.g.nd l1 l2 l3 l4 l5 l6).impT l7) (by rw [sw_lc so.kind, hsw]) (.inl (hfn _))
      · split at q
        · cases q
        · rename_i hc
          simp only [Option.map_eq_some_iff] at q
          obtain ⟨y, h2, rfl⟩ := q
          exact s_set ok.g (tgt_of C x i) s1 s2 (hf _ _ h2) (sw_none (by simpa using hc)) (.inl (hfn _))
    · rename_i ts tk tp e pos
      split at q
      · rename_i x px y py a b _ _
        split at q
        · rename_i hp
          simp only [Option.bind_eq_some_iff] at q
          obtain ⟨i, h1, j, h2, q⟩ := q
          split at q
          · rename_i hij
            simp only [Option.bind_eq_some_iff, Option.map_eq_some_iff] at q
            obtain ⟨u, h3, v, h4, rfl⟩ := q
            obtain ⟨s1, s2⟩ := slot_of ok h1
            obtain ⟨s3, s4⟩ := slot_of ok h2
            unfold parOk Cc.kind at hp
            rw [← ok.hsc] at hp
            simp only [Bool.and_eq_true, Bool.not_eq_true', beq_iff_eq] at hp
            obtain ⟨⟨⟨⟨⟨⟨⟨p1, p2⟩, p3⟩, p4⟩, p5⟩, p6⟩, p7⟩, p8⟩ := hp
            have p6' := p6
            simp only [List.any_cons, List.any_nil, Bool.or_eq_false_iff] at p6'
            exact s_par ok.g s1 s3 hij p1 p2 (hf _ _ h3) (hf _ _ h4) (star_each p6'.1) (star_each p6'.2.1) (swapped_par so.kind p1 p2 (by rw [p3]; exact beq_self_eq_true _) p4 p5 p6 p7 p8) rfl
          · cases q
        · cases q
      · split at q
        · cases q
        · rename_i hc
          simp only [Bool.or_eq_true, not_or, Bool.not_eq_true] at hc
          simp only [Option.bind_eq_some_iff, Option.map_eq_some_iff] at q
          obtain ⟨t, h1, y, h2, rfl⟩ := q
          have ht : ∀ r e h, setT t r e h = (bindT t r.sh e h).map fun e1 => .nx e1 h := by
            simp only [cT, Option.map_eq_some_iff] at h1
            obtain ⟨u, _, rfl⟩ := h1
            intro r e h
            cases r <;> rfl
          exact s_setT ht (hf _ _ h2) (c_target ok 9 _ _ h1) (sw_sole hc.2) (swapped_none hc.1) rfl
    · rename_i o i p e pos
      split at q
      · cases q
      · rename_i hc
        simp only [Bool.or_eq_true, not_or, Bool.not_eq_true] at hc
        simp only [Option.bind_eq_some_iff, Option.map_eq_some_iff] at q
        obtain ⟨x, h1, y, h2, z, h3, rfl⟩ := q
        exact s_setix (hf _ _ h1) (hf _ _ h2) (hf _ _ h3) (by intro v; cases i <;> first | rfl | cases hc.1) (sw_sole hc.2) swapped_sub rfl
    · cases q
end
end Tc

/-! Tc: defs, the whole program. -/
namespace Tc
open PySem L2
/-! ### what leans on the caller's objects alone -/
section
variable {M : Mo} {ρ ρ0 : List Addr} {X X' : Addr → Prop} {H : Hp} {n : Nat}
mutual
theorem Rp.low {M : Mo} {ρ : List Addr} {X : Addr → Prop} {H : Hp} : ∀ {d : D} {v : V}, Rp M ρ X H d v → d.low ρ.length = true
  | _, _, .non => by simp [D.low]
  | _, _, .bl b => by simp [D.low]
  | _, _, .int i => by simp [D.low]
  | _, _, .str x h => by simp [D.low]
  | _, _, .tup h r => by simpa [D.low] using Rps.low r
  | _, _, .lst h n r => by simpa [D.low] using Rps.low r
  | _, _, .fz h r => by simpa [D.low] using Rps.low r
  | _, _, .dct h n r => by simpa [D.low] using Rpk.low r
  | _, _, .ref h => by
    simp only [D.low, decide_eq_true_eq]
    exact (List.getElem?_eq_some_iff.mp h).1
theorem Rps.low {M : Mo} {ρ : List Addr} {X : Addr → Prop} {H : Hp} : ∀ {ds : List D} {vs : List V}, Rps M ρ X H ds vs → lows ρ.length ds = true
  | _, _, .nil => by simp [lows]
  | _, _, .cons h r => by simp [lows, Rp.low h, Rps.low r]
theorem Rpk.low {M : Mo} {ρ : List Addr} {X : Addr → Prop} {H : Hp} : ∀ {ds : List (D × D)} {vs : List (Key × V)}, Rpk M ρ X H ds vs → lowp ρ.length ds = true
  | _, _, .nil => by simp [lowp]
  | _, _, .str s h r => by simp [lowp, D.low, Rp.low h, Rpk.low r]
end
theorem RpO.low {o : Ob} {u : HO} : RpO M ρ X H o u → o.low ρ.length = true
  | .lst h => by simpa [Ob.low] using h.low
  | .dct h => by simpa [Ob.low] using h.low
mutual
theorem Rp.cut {M : Mo} {ρ ρ0 : List Addr} {X X' : Addr → Prop} {H : Hp} {n : Nat} (hp : ∀ m a, m < n → ρ[m]? = some a → ρ0[m]? = some a) (hx : ∀ a, X' a → X a) : ∀ {d : D} {v : V}, Rp M ρ X H d v → d.low n = true → Rp M ρ0 X' H d v
  | _, _, .non, _ => .non
  | _, _, .bl b, _ => .bl b
  | _, _, .int i, _ => .int i
  | _, _, .str x h, _ => .str x h
  | _, _, .tup h r, q => .tup h (Rps.cut hp hx r (by simpa [D.low] using q))
  | _, _, .lst h n r, q => .lst h (fun z => n (hx _ z)) (Rps.cut hp hx r (by simpa [D.low] using q))
  | _, _, .fz h r, q => .fz h (Rps.cut hp hx r (by simpa [D.low] using q))
  | _, _, .dct h n r, q => .dct h (fun z => n (hx _ z)) (Rpk.cut hp hx r (by simpa [D.low] using q))
  | _, _, .ref h, q => .ref (hp _ _ (by simpa [D.low] using q) h)
theorem Rps.cut {M : Mo} {ρ ρ0 : List Addr} {X X' : Addr → Prop} {H : Hp} {n : Nat} (hp : ∀ m a, m < n → ρ[m]? = some a → ρ0[m]? = some a) (hx : ∀ a, X' a → X a) : ∀ {ds : List D} {vs : List V}, Rps M ρ X H ds vs → lows n ds = true → Rps M ρ0 X' H ds vs
  | _, _, .nil, _ => .nil
  | _, _, .cons h r, q => by
    simp only [lows, Bool.and_eq_true] at q
    exact .cons (Rp.cut hp hx h q.1) (Rps.cut hp hx r q.2)
theorem Rpk.cut {M : Mo} {ρ ρ0 : List Addr} {X X' : Addr → Prop} {H : Hp} {n : Nat} (hp : ∀ m a, m < n → ρ[m]? = some a → ρ0[m]? = some a) (hx : ∀ a, X' a → X a) : ∀ {ds : List (D × D)} {vs : List (Key × V)}, Rpk M ρ X H ds vs → lowp n ds = true → Rpk M ρ0 X' H ds vs
  | _, _, .nil, _ => .nil
  | _, _, .str s h r, q => by
    simp only [lowp, Bool.and_eq_true] at q
    exact .str s (Rp.cut hp hx h q.1.2) (Rpk.cut hp hx r q.2)
end
theorem RpO.cut {o : Ob} {u : HO} (hp : ∀ m a, m < n → ρ[m]? = some a → ρ0[m]? = some a) (hx : ∀ a, X' a → X a) : RpO M ρ X H o u → o.low n = true → RpO M ρ0 X' H o u
  | .lst h, q => .lst (h.cut hp hx (by simpa [Ob.low] using q))
  | .dct h, q => .dct (h.cut hp hx (by simpa [Ob.low] using q))
mutual
theorem Rp.frz {M : Mo} {ρ ρ0 : List Addr} {X X' : Addr → Prop} {H : Hp} {h : Sto} {n : Nat} (hp : ∀ m a, m < n → ρ[m]? = some a → ρ0[m]? = some a) (hx : ∀ a, X' a → X a) (hn : ∀ m a, n ≤ m → ρ[m]? = some a → ¬ X' a)
    (ob : ∀ (n : Nat) (o : Ob), h[n]? = some o → ∃ a u, ρ[n]? = some a ∧ H a = some u ∧ RpO M ρ X H o u) : ∀ {d : D} {v : V} {d' : D}, Rp M ρ X H d v → Tc.frz n h d = some d' → Rp M ρ0 X' H d' v
  | .ref m, _, d', .ref r, q => by
    rw [Tc.frz] at q
    split at q
    · rename_i hm
      cases q
      exact .ref (hp _ _ hm r)
    · rename_i hm
      cases hq : h[m]? with
      | none => rw [hq] at q; cases q
      | some o =>
        obtain ⟨a, u, q1, q2, q3⟩ := ob m o hq
        rw [r] at q1
        cases q1
        rw [hq] at q
        cases q3 with
        | lst q3 =>
          dsimp only at q
          split at q
          · rename_i hl
            cases q
            exact .lst q2 (hn _ _ (Nat.le_of_not_lt hm) r) (q3.cut hp hx hl)
          · cases q
        | dct q3 =>
          dsimp only at q
          split at q
          · rename_i hl
            cases q
            exact .dct q2 (hn _ _ (Nat.le_of_not_lt hm) r) (q3.cut hp hx hl)
          · cases q
  | .tup xs, _, d', .tup s r, q => by
    simp only [Tc.frz, Option.map_eq_some_iff] at q
    obtain ⟨ys, q, rfl⟩ := q
    exact .tup s (Rps.frz hp hx hn ob r q)
  | .non, v, d', r, q => by simp only [Tc.frz, D.low, if_true] at q; cases q; exact r.cut hp hx (by simp [D.low])
  | .bl _, v, d', r, q => by simp only [Tc.frz, D.low, if_true] at q; cases q; exact r.cut hp hx (by simp [D.low])
  | .int _, v, d', r, q => by simp only [Tc.frz, D.low, if_true] at q; cases q; exact r.cut hp hx (by simp [D.low])
  | .str _, v, d', r, q => by simp only [Tc.frz, D.low, if_true] at q; cases q; exact r.cut hp hx (by simp [D.low])
  | .lst _, v, d', r, q => by simp only [Tc.frz] at q; split at q; (cases q; exact r.cut hp hx (by assumption)); cases q
  | .fz _, v, d', r, q => by simp only [Tc.frz] at q; split at q; (cases q; exact r.cut hp hx (by assumption)); cases q
  | .dct _, v, d', r, q => by simp only [Tc.frz] at q; split at q; (cases q; exact r.cut hp hx (by assumption)); cases q
theorem Rps.frz {M : Mo} {ρ ρ0 : List Addr} {X X' : Addr → Prop} {H : Hp} {h : Sto} {n : Nat} (hp : ∀ m a, m < n → ρ[m]? = some a → ρ0[m]? = some a) (hx : ∀ a, X' a → X a) (hn : ∀ m a, n ≤ m → ρ[m]? = some a → ¬ X' a)
    (ob : ∀ (n : Nat) (o : Ob), h[n]? = some o → ∃ a u, ρ[n]? = some a ∧ H a = some u ∧ RpO M ρ X H o u) : ∀ {ds : List D} {vs : List V} {ds' : List D}, Rps M ρ X H ds vs → Tc.frzs n h ds = some ds' → Rps M ρ0 X' H ds' vs
  | _, _, _, .nil, q => by simp only [Tc.frzs] at q; cases q; exact .nil
  | _, _, _, .cons x r, q => by
    simp only [Tc.frzs, Option.bind_eq_some_iff, Option.map_eq_some_iff] at q
    obtain ⟨a, q1, b, q2, rfl⟩ := q
    exact .cons (Rp.frz hp hx hn ob x q1) (Rps.frz hp hx hn ob r q2)
end
end
section
variable {M : Mo} {F : Addr → Prop} {ρ ρ' : List Addr} {H H' : Hp} {h h' : Sto}
/-- the caller's part of the store -/
structure Trim (M : Mo) (F : Addr → Prop) (ρ : List Addr) (H : Hp) (h : Sto) (ρ' : List Addr) (Y : Addr → Prop) (H' : Hp) (h' : Sto) : Prop where
  hp : ∀ m a, m < h.length → ρ'[m]? = some a → ρ[m]? = some a
  hx : ∀ a, Xo F ρ a → Xo F ρ' a
  fresh : ∀ m a, h.length ≤ m → ρ'[m]? = some a → H a = none ∧ ¬ Xo F ρ a
  st : Step ρ H ρ H'
  ab : ∀ X : Addr → Prop, (∀ a, X a → Y a) → Ab M ρ X [] (h'.take h.length) [] H'
theorem trim {Y : Addr → Prop} (A : Ab0 M F ρ [] h [] H) (s : Step ρ H ρ' H') (B : Ab M ρ' Y [] h' [] H') (t : tidy h h') : Trim M F ρ H h ρ' Y H' h' := by
  have hp : ∀ m a, m < h.length → ρ'[m]? = some a → ρ[m]? = some a := fun m a hm q => by
    have hm' : m < ρ.length := by rw [← A.hl]; exact hm
    have e := s.pre m ρ[m] (List.getElem?_eq_getElem hm')
    rw [q] at e
    cases e
    exact List.getElem?_eq_getElem hm'
  have hx : ∀ a, Xo F ρ a → Xo F ρ' a := fun a z => by
    rcases z with z | z
    · exact .inl (s.mem z)
    · exact .inr z
  have st : Step ρ H ρ H' := ⟨fun _ _ e => e, fun _ e => .inl e, s.keep, s.tups, s.frzs, s.back⟩
  refine ⟨hp, hx, fun m a hm q => ?_, st, fun X h1 => ?_⟩
  · have ne : a ∉ ρ := fun z => by
      obtain ⟨j, e⟩ := List.getElem?_of_mem z
      have hj := (List.getElem?_eq_some_iff.mp e).1
      obtain ⟨i1, e1⟩ := List.getElem?_eq_some_iff.mp (s.pre _ _ e)
      obtain ⟨i2, e2⟩ := List.getElem?_eq_some_iff.mp q
      have := (List.getElem_inj B.nd).mp (e1.trans e2.symm)
      have := A.hl
      omega
    have n : H a = none := (s.new a (List.mem_of_getElem? q)).resolve_left ne
    exact ⟨n, A.notin n⟩
  · refine ⟨?_, A.nd, fun m o q => ?_, rfl, fun i d q => by simp at q, fun a z => B.fx a (h1 a z)⟩
    · rw [List.length_take, B.hl, A.hl]
      have : ρ.length ≤ ρ'.length := by
        cases hn : ρ.length with
        | zero => exact Nat.zero_le _
        | succ j =>
          have e := s.pre j ρ[j] (List.getElem?_eq_getElem (by omega))
          exact (List.getElem?_eq_some_iff.mp e).1
      omega
    · have hm : m < h.length := by
        have := (List.getElem?_eq_some_iff.mp q).1
        rw [List.length_take] at this
        omega
      rw [List.getElem?_take_of_lt hm] at q
      obtain ⟨a, u, q1, q2, q3⟩ := B.ob m o q
      refine ⟨a, u, hp m a hm q1, q2, ?_⟩
      have lo : o.low h.length = true := by
        rcases t m hm with e | ⟨o', e, l⟩
        · rw [q] at e
          obtain ⟨_, _, _, _, r⟩ := A.ob m o e.symm
          rw [A.hl]
          exact r.low
        · rw [q] at e
          cases e
          exact l
      exact q3.cut hp h1 lo
theorem ret_trim {keep : Bool} {r : R} {v : V} {Q : VK} {E : XK} (A : Ab0 M F ρ [] h [] H) (s : Step ρ H ρ' H') (p : PostR M F H ρ' H' [] h' [] r v) (a : AnsC M F ρ H (some (retV keep h r h')) Q E) : Q v H' := by
  unfold retV at a
  split at a
  · rename_i ht
    have T0 := fun (B : Ab0 M F ρ' [] h' [] H') => trim A s B ht.2
    cases r with
    | d d =>
      obtain ⟨B, q⟩ := p
      have T := trim A s B ht.2
      have gen : AnsC M F ρ H (some (match frz h.length h' d with
          | some d' => .ok (.d d') (h'.take h.length)
          | none => .ok (.d d) h')) Q E → Q v H' := fun a => by
        cases hf : frz h.length h' d with
        | none => rw [hf] at a; exact a v ρ' H' s ⟨B, q⟩
        | some d' =>
          rw [hf] at a
          exact a v ρ H' T.st ⟨T.ab _ T.hx, q.frz T.hp T.hx (fun m b hm e => (T.fresh m b hm e).2) B.ob hf⟩
      cases d with
      | ref m =>
        dsimp only at a
        cases q with
        | @ref _ b q =>
        split at a
        · rename_i hm
          exact a (.ref b) ρ H' T.st ⟨T.ab _ T.hx, .ref (T.hp _ _ hm q)⟩
        · rename_i hm
          have fr := T.fresh m b (Nat.le_of_not_lt hm) q
          have dflt : AnsC M F ρ H (some (.ok (.d (.ref m)) h')) Q E → Q (.ref b) H' := fun a => a _ ρ' H' s ⟨B, .ref q⟩
          have hX : ∀ c, (c = b ∨ Xo F ρ c) → Xo F ρ' c := fun c z => by
            rcases z with rfl | z
            · exact .inl (List.mem_of_getElem? q)
            · exact T.hx _ z
          cases hq : h'[m]? with
          | none => rw [hq] at a; exact dflt a
          | some o =>
            rw [hq] at a
            obtain ⟨c, u, q1, q2, q3⟩ := B.ob m o hq
            rw [q] at q1
            cases q1
            cases q3 with
            | lst q3 =>
              dsimp only at a
              split at a
              · rename_i hl
                exact a (.ref b) ρ H' T.st ⟨b, _, rfl, fr.1, fr.2, q2, T.ab _ hX, q3.cut T.hp hX hl⟩
              · exact dflt a
            | dct q3 =>
              dsimp only at a
              split at a
              · rename_i hl
                exact a (.ref b) ρ H' T.st ⟨b, _, rfl, fr.1, fr.2, q2, T.ab _ hX, q3.cut T.hp hX hl⟩
              · exact dflt a
      | non => exact gen a
      | bl _ => exact gen a
      | int _ => exact gen a
      | str _ => exact gen a
      | tup _ => exact gen a
      | lst _ => exact gen a
      | fz _ => exact gen a
      | dct _ => exact gen a
      | exn _ _ => exact gen a
    | tl xs =>
      dsimp only at a
      split at a
      · rename_i hl
        obtain ⟨b, vs, e, n, na, q, B, rs⟩ := p
        have T := trim A s B ht.2
        have hX : ∀ c, (c = b ∨ Xo F ρ c) → (c = b ∨ Xo F ρ' c) := fun c z => z.imp id (T.hx c)
        exact a v ρ H' T.st ⟨b, vs, e, n, fun z => na (T.hx _ z), q, T.ab _ hX, rs.cut T.hp hX hl⟩
      · exact a v ρ' H' s p
    | td xs =>
      dsimp only at a
      split at a
      · rename_i hl
        obtain ⟨b, vs, e, n, na, q, B, rs⟩ := p
        have T := trim A s B ht.2
        have hX : ∀ c, (c = b ∨ Xo F ρ c) → (c = b ∨ Xo F ρ' c) := fun c z => z.imp id (T.hx c)
        exact a v ρ H' T.st ⟨b, vs, e, n, fun z => na (T.hx _ z), q, T.ab _ hX, rs.cut T.hp hX hl⟩
      · exact a v ρ' H' s p
  · exact a v ρ' H' s p
theorem RpX.cut {x : Exn} {cls : Value} {d : Option Addr} {n : Nat} (hp : ∀ m a, m < n → ρ'[m]? = some a → ρ[m]? = some a) (hx : ∀ a, Xo F ρ a → Xo F ρ' a) (r : RpX M F ρ' H' x cls d) (l : lowf n x.fs = true) : RpX M F ρ H' x cls d := by
  obtain ⟨C, h1, h2, h3⟩ := r
  refine ⟨C, h1, h2, ?_⟩
  obtain ⟨c, fs⟩ := x
  match fs, h3, l with
  | [], h3, _ => exact h3
  | [(f, y)], ⟨a, v, e1, e2, e3⟩, l =>
    simp only [lowf, Bool.and_true] at l
    exact ⟨a, v, e1, e2, e3.cut hp hx l⟩
/-- a body's end, as the call's answer wants it -/
theorem fin_ans {keep : Bool} {o : Option Fl} {Q : VK} {E : XK} (A : Ab0 M F ρ [] h [] H) (a : AnsC M F ρ H (fin keep h o) Q E) : AnsF M (fun cls d _ H => E cls d H) F ρ H o { nx := fun _ H' => Q .non H', rt := Q } := by
  cases o with
  | none => exact a
  | some o => cases o with
    | nx e' h' => exact fun σ' ρ' H' s B => ret_trim A s (r := .d .non) ⟨B.noenv, .non⟩ a
    | rt r h' => exact fun v ρ' H' s p => ret_trim A s p a
    | ex x e' h' =>
      intro cls d σ' ρ' H' s B r
      rw [fin] at a
      split at a
      · rename_i ht
        have T := trim A s B.noenv ht.1
        exact a cls d ρ H' T.st (T.ab _ T.hx) (r.cut T.hp T.hx ht.2)
      · exact a cls d ρ' H' s B.noenv r
end
/-! ### defs -/
/-- a def of the text, and what it is in ours -/
structure Pr where
  x : Str
  nm : Str
  qual : Str
  st : Stmt
  N : List Str
  ps : List Str
  mu : List Str
  d : Def
/-- the program in ours -/
def prog (L : List Pr) (csts : List (Str × D)) (subs : Str → Str → Bool) : Prog := ⟨L.map fun e => (e.x, e.d), csts, subs⟩
def ccOf (L : List Pr) (cs bl : List Str) (e : Pr) : Cc := ⟨defScope e.st, e.N, L.map fun e => (e.x, e.d.np), cs, bl, e.mu, true⟩
/-- what is checked of a def -/
structure Chk (L : List Pr) (cs bl : List Str) (e : Pr) : Prop where
  sc : FnScope e.N e.ps (defScope e.st)
  tr : cSs (cS (cE 30) 30 (ccOf L cs bl e)) (defBody e.st) = some e.d.body
  np : e.d.np = e.ps.length
  nn : e.d.n = e.N.length
  lk : (L.map fun e => (e.x, e.d)).lookup e.x = some e.d
  bd : ∀ (kV doc pm : Value) (an : Option Addr) (cdv ct : Value) (us : List Value), us.length = e.ps.length → bindArgs (PySem.W.fnOf e.nm e.qual (defArgs e.st) (defBody e.st) (defScope e.st) .none kV doc pm an cdv ct) ⟨us, []⟩ = pure (e.ps.zip us)
def fnScopeB (N ps : List Str) (sc : Scope) : Bool :=
  sc.kind == .function && !sc.isCoroutine && !sc.isGenerator && decide N.Nodup && N.take ps.length == ps && ps.all (fun x => sc.names.lookup x == some .local || sc.names.lookup x == some .cell) && sc.names.all fun y => y.2 != .free
theorem fnScope_of {N ps : List Str} {sc : Scope} (h : fnScopeB N ps sc = true) : FnScope N ps sc := by
  unfold fnScopeB at h
  simp only [Bool.and_eq_true, Bool.not_eq_true', List.all_eq_true, Bool.or_eq_true, beq_iff_eq, decide_eq_true_eq, bne_iff_ne, ne_eq] at h
  obtain ⟨⟨⟨⟨⟨⟨h1, h2⟩, h3⟩, h4⟩, h5⟩, h6⟩, h7⟩ := h
  exact ⟨h1, h2, h3, h4, h5, h6, h7⟩
/-- what stands in the heap -/
def StdK (K : PySem.W.Frag) (x nm qual : Str) (st : Stmt) : Prop := ∃ f fd, PySem.W.nsIn K mainGlobals x = some (some (.ref f)) ∧ Fun K nm qual st f fd
theorem stdK_mk {K : PySem.W.Frag} {h : Heap} (_ : K.In h) (x nm qual : Str) (st : Stmt) {f : Addr} {oc : Value} {od an : Option Addr} {osl : Array (Option Value)} {kV doc pm cdv ct : Value} (a : PySem.W.nsIn K mainGlobals x = some (some (.ref f)))
    (l : K.lookup f = some ⟨oc, od, .func (PySem.W.fnOf nm qual (defArgs st) (defBody st) (defScope st) .none kV doc pm an cdv ct), osl⟩) (c : PySem.W.codeIn K cdv qual = true) (k : PySem.W.keepIn K (.ref f) = true) : StdK K x nm qual st :=
  ⟨f, _, a, fun_mk l c k⟩
theorem stdK_then {K : PySem.W.Frag} {h : Heap} (KX : K.In h) (x nm qual : Str) (st : Stmt) {g : Prop} {f : Addr} {oc : Value} {od an : Option Addr} {osl : Array (Option Value)} {kV doc pm cdv ct : Value} (a : PySem.W.nsIn K mainGlobals x = some (some (.ref f)))
    (l : K.lookup f = some ⟨oc, od, .func (PySem.W.fnOf nm qual (defArgs st) (defBody st) (defScope st) .none kV doc pm an cdv ct), osl⟩) (c : PySem.W.codeIn K cdv qual = true) (k : PySem.W.keepIn K (.ref f) = true) (n : StdK K x nm qual st → g) : g := n (stdK_mk KX x nm qual st a l c k)
def Std (K : PySem.W.Frag) (mg : Str → Option Value) (e : Pr) : Prop := ∃ f fd, mg e.x = some (.ref f) ∧ Fun K e.nm e.qual e.st f fd ∧ Binds K fd e.ps []
theorem StdK.std {K : PySem.W.Frag} {h : Heap} {mg : Str → Option Value} {e : Pr} {L : List Pr} {cs bl : List Str} (KX : K.In h) (G : h.Ns mainGlobals mg) (s : StdK K e.x e.nm e.qual e.st) (c : Chk L cs bl e) : Std K mg e := by
  obtain ⟨f, fd, a, F⟩ := s
  exact ⟨f, fd, PySem.W.mg_of KX G a, F, F.binds c.bd⟩
structure Glo (K : PySem.W.Frag) (mg : Str → Option Value) (csts : List (Str × D)) (cs bl : List Str) : Prop where
  csts : ∀ x, cs.contains x = true → ∃ d v u, csts.lookup x = some d ∧ mg x = some u ∧ RelV v u ∧ ∀ (M : Mo) F ρ H, M.K = K → Rp0 M F ρ H d v
  blts : ∀ x, bl.contains x = true → mg x = none
theorem start_env {M : Mo} {ρ : List Addr} {X : Addr → Prop} {H : Hp} {h : Sto} {ds : List D} {vs : List V} {N : List Str} {n : Nat} (A : Ab M ρ X [] h [] H) (r : Rps M ρ X H ds vs) (hn : n = N.length) (hl : ds.length ≤ N.length) : Ab M ρ X (env0 n ds) h (start N vs) H where
  hl := A.hl
  nd := A.nd
  ob := A.ob
  fx := A.fx
  el := by
    unfold env0 L2.start
    have := r.length
    simp only [List.length_append, List.length_map, List.length_replicate]
    omega
  env := fun i d q => by
    unfold env0 at q
    unfold L2.start
    by_cases hi : i < ds.length
    · rw [List.getElem?_append_left (by simpa using hi), List.getElem?_map] at q
      cases e : ds[i]? with
      | none => rw [e] at q; cases q
      | some y =>
        rw [e] at q
        cases q
        obtain ⟨v, q1, q2⟩ := r.get e
        refine ⟨v, ?_, q2⟩
        rw [List.getElem?_append_left (by simpa using (List.getElem?_eq_some_iff.mp q1).1), List.getElem?_map, q1]
        rfl
    · rw [List.getElem?_append_right (by simpa using hi), List.getElem?_replicate] at q
      split at q <;> cases q
section
variable {P : Program} {w : World} {K : PySem.W.Frag} {mg : Str → Option Value} {base : Heap}
theorem lookup_map {β : Type} {g : Pr → β} : ∀ {L : List Pr} {x : Str} {b : β}, (L.map fun e => (e.x, g e)).lookup x = some b → ∃ e ∈ L, e.x = x ∧ g e = b
  | [], _, _, q => by cases q
  | e :: L, x, b, q => by
    rw [List.map_cons, List.lookup_cons] at q
    split at q
    · rename_i h
      cases q
      exact ⟨e, List.mem_cons_self, (beq_iff_eq.mp h).symm, rfl⟩
    · obtain ⟨e', h1, h2⟩ := lookup_map q
      exact ⟨e', List.mem_cons_of_mem _ h1, h2⟩
theorem prog_ok {M : Mo} {L : List Pr} {csts : List (Str × D)} {cs bl : List Str} {subs : Str → Str → Bool} (hK : M.K = K) (hc : ∀ e ∈ L, Chk L cs bl e) (hs : ∀ e ∈ L, Std K mg e) (hg : Glo K mg csts cs bl) :
    ∀ k, ∀ e ∈ L, ∀ f fd, mg e.x = some (.ref f) → Fun K e.nm e.qual e.st f fd → FnOk P w K mg base (L2.CX P w) k f fd e.ps (spF M e.ps.length (callF (prog L csts subs) k e.x))
  | 0, e, he, f, fd, _, _ => ⟨fun vs H Q E q => q.1, fun A outer s H args us vs Q E _ _ _ _ q => by
      obtain ⟨_, F, ρ, h, ds, _, _, a⟩ := q
      exact a.elim⟩
  | k + 1, e, he, f, fd, hm, hf => by
    have C := hc e he
    refine hf.okX C.sc (fun vs H Q E q => q.1) fun cdv A outer s H vs Q E hr q => ?_
    obtain ⟨hl, F, ρ, h, ds, B, r, a⟩ := q
    have sok : Cok M (prog L csts subs) k (ccOf L cs bl e) (fun cls d _ H => E cls d H) (cxOf (L2.CX P w) P w K mg base e.N e.qual (defScope e.st) f cdv A outer s H E) := by
      refine ⟨⟨hK, C.sc.nd, rfl, takes_of rfl rfl rfl rfl, ?_⟩, rfl, rfl, hr, fun x n q => ?_, fun x q => ?_, hg.blts, fun _ _ => rfl⟩
      · have := hr.un
        show (A.deeper _).units + 65 < _
        omega
      · obtain ⟨e', h1, rfl, rfl⟩ := lookup_map (g := fun e => e.d.np) q
        obtain ⟨f', fd', m1, m2, m3⟩ := hs e' h1
        exact ⟨f', fd', e'.ps, m1, m2.kp, m3, by rw [(hc e' h1).np]; exact prog_ok hK hc hs hg k e' h1 f' fd' m1 m2⟩
      · obtain ⟨d, v, u, q1, q2, q3, q4⟩ := hg.csts x q
        exact ⟨d, v, u, q1, q2, q3, fun F ρ H => q4 M F ρ H hK⟩
    have so : Sok (ccOf L cs bl e) (cxOf (L2.CX P w) P w K mg base e.N e.qual (defScope e.st) f cdv A outer s H E) := ⟨rfl, C.sc.kind, passes_of rfl⟩
    refine ⟨_, c_block (fun st m q => c_stmt (c_all 30).1 (fun C W X e m ok q z => (c_all 30).2 C W X e m ok q 9 z) 30 _ _ _ st m sok so q) C.tr, F, ρ, env0 e.d.n ds, h, start_env B r C.nn ?_, ?_⟩
    · rw [r.length, hl]
      have := congrArg List.length C.sc.pre
      rw [List.length_take] at this
      omega
    · have q : callF (prog L csts subs) (k + 1) e.x ds h = fin e.d.keep h (exS (ctx (prog L csts subs) k) e.d.body (env0 e.d.n ds) h) := by
        rw [callF]
        show (match (L.map fun e => (e.x, e.d)).lookup e.x with
          | some d => _
          | none => none) = _
        rw [C.lk]
        dsimp only
        rw [if_pos (by rw [r.length, hl, C.np])]
      rw [q] at a
      exact fin_ans B a
end
/-! ### the head -/
def spLaw (P : Prog) (K : PySem.W.Frag) : Sp := fun vs H Q _ => ∃ (a : Addr) (ns : List Int), vs = [.ref a] ∧ Fz K H a (ns.map V.int) ∧ ns.length ≤ 63 ∧ ∀ H', Q (.bl true) H'
theorem rps_ints {M : Mo} {ρ : List Addr} {X : Addr → Prop} {H : Hp} : ∀ ns : List Int, Rps M ρ X H (ns.map D.int) (ns.map V.int)
  | [] => .nil
  | n :: ns => .cons (.int n) (rps_ints ns)
theorem law_ok {P : Program} {w : World} {K : PySem.W.Frag} {mg : Str → Option Value} {base : Heap} {M : Mo} {L : List Pr} {csts : List (Str × D)} {cs bl : List Str} {subs : Str → Str → Bool} (hK : M.K = K) (hc : ∀ e ∈ L, Chk L cs bl e) (hs : ∀ e ∈ L, Std K mg e) (hg : Glo K mg csts cs bl)
    {k : Nat} {e : Pr} (he : e ∈ L) {f : Addr} {fd : FuncData} (hm : mg e.x = some (.ref f)) (hf : Fun K e.nm e.qual e.st f fd) (h1 : e.ps.length = 1)
    (hlaw : ∀ ns : List Int, ns.length ≤ 63 → ∃ h', callF (prog L csts subs) k e.x [.fz (ns.map D.int)] [] = some (.ok (.d (.bl true)) h')) : FnOk P w K mg base (L2.CX P w) k f fd e.ps (spLaw (prog L csts subs) K) := by
  refine (prog_ok (subs := subs) hK hc hs hg k e he f fd hm hf).imp fun vs H Q E q => ?_
  obtain ⟨a, ns, rfl, h2, h3, h4⟩ := q
  obtain ⟨h', h5⟩ := hlaw ns h3
  refine ⟨h1.symm, fun _ => False, [], [], [.fz (ns.map D.int)], ⟨rfl, List.nodup_nil, fun n o q => by simp at q, rfl, fun i d q => by simp at q, fun a z => by
    rcases z with z | z
    · simp at z
    · exact z.elim⟩, .cons (.fz (by rw [hK]; exact h2) (rps_ints ns)) .nil, ?_⟩
  rw [h5]
  intro v ρ' H' s p
  obtain ⟨_, r⟩ := p
  cases rp_bl r
  exact h4 H'
theorem cx_end {P : Program} {w : World} {H : Hp} {s : Shared} {e : Value} {s' : Shared} (h : L2.CX P w [] H s (fun _ _ _ => False) e s') : False := by
  obtain ⟨_, _, _, _, _, _, _, _, _, _, _, _, z⟩ := h
  exact z.elim
theorem walk {l : PySem.W.OpenLaw} {q : Program} {loose : List Str} {XP : (Str → Option Value) → Heap → Prop} {YP : World → Heap → Prop} {d : DefRec} {K : Params → PySem.W.Frag} {L : List Pr} {csts : List (Str × D)} {cs bl : List Str} {subs : Str → Str → Bool} {k : Nat} {e : Pr} {x : Str} {ca : PySem.W.Frag → Str → Option Addr}
    (hn : l.most = some 63) (hdf : d.params.defaults = []) (hr : Room k callerA) (hd : d.name = e.x) (he : e ∈ L) (hp : e.ps = [x]) (hc : ∀ e ∈ L, Chk L cs bl e)
    (hlaw : ∀ ns : List Int, ns.length ≤ 63 → ∃ h', callF (prog L csts subs) k e.x [.fz (ns.map D.int)] [] = some (.ok (.d (.bl true)) h'))
    (hY : ∀ (w : World) (h : Heap), YP w h → (K w.params).In h)
    (F : ∀ (w : World) (mg : Str → Option Value) (fa : Addr) (h : Heap), (K w.params).In h → h.Ns mainGlobals mg → mg d.name = some (.ref fa) → (∀ e ∈ L, StdK (K w.params) e.x e.nm e.qual e.st) ∧ Glo (K w.params) mg csts cs bl) :
    PySem.W.WalkO q loose XP YP l.row.toRowW d [] (fun f vs => PySem.call f vs) :=
  L2.walk_of (n := 63) (k := k) (x := x) (CX := fun w => L2.CX l.prog w) (sp := fun w => spLaw (prog L csts subs) (K w.params)) hn (by decide) hdf hr hY (fun w mg fa h KX G hmg => by
      obtain ⟨F1, F2⟩ := F w mg fa h KX G hmg
      have F3 : ∀ e ∈ L, Std (K w.params) mg e := fun e he => (F1 e he).std KX G (hc e he)
      obtain ⟨f, fd, m1, m2, m3⟩ := F3 e he
      rw [hd, m1] at hmg
      cases hmg
      rw [hp] at m3
      have hb : ∀ (s : Shared) (u : Value), BindsTo s fd ⟨[u], []⟩ [(x, u)] := by
        obtain ⟨oc, od, kV, doc, pm, an, cdv, ct, osl, rfl, lk, hcd⟩ := m2.ex
        intro s u
        have z := (hc e he).bd kV doc pm an cdv ct [u] (by rw [hp]; rfl)
        rw [hp] at z
        exact .of_eq z
      refine ⟨fd, hb, fun base _ _ => ?_⟩
      have z := law_ok (P := l.prog) (w := w) (base := base) (M := ⟨K w.params, ca (K w.params)⟩) (subs := subs) rfl hc F3 F2 he m1 m2 (by rw [hp]; rfl) hlaw
      rw [hp] at z
      exact z)
    (fun w H a ns hl hO hS => ⟨a, ns, rfl, by
      rcases hS with (hS | hS) | hS
      · rcases hO a with z | ⟨o, xs, z⟩
        · rw [hS] at z; cases z
        · rw [hS] at z; cases z
      · exact .inl hS
      · exact .inr hS, hl, fun _ => rfl⟩) fun w H s e s' z => cx_end z
/-! ### constants of the module -/
/-- d stands at u by the module's written part alone -/
inductive CsR (K : PySem.W.Frag) : D → Value → Prop
  | int (i : Int) (t : Tok) : CsR K (.int i) (.int i t)
  | bl (b : Bool) : CsR K (.bl b) (.bool b)
  | str (x : Str) (t : Tok) : PyData.strOk x = true → CsR K (.str x) (.str x t)
  | tup {f : Addr} {ds : List D} {od : Option Addr} {its : Array Value} {n : Nat} {sl : Array (Option Value)} : K.lookup f = some ⟨.type "tuple", od, .seq its n, sl⟩ → its.size ≤ sizeLine → Paired (CsR K) ds its.toList → CsR K (.tup ds) (.ref f)
def CstK (K : PySem.W.Frag) (x : Str) (d : D) : Prop := ∃ u, PySem.W.nsIn K mainGlobals x = some (some u) ∧ CsR K d u
theorem CsR.to {K : PySem.W.Frag} {d : D} {u : Value} (h : CsR K d u) : ∃ v, RelV v u ∧ ∀ (M : Mo) (ρ : List Addr) (X : Addr → Prop) (H : Hp), M.K = K → Rp M ρ X H d v := by
  refine CsR.rec (motive_1 := fun d u _ => ∃ v, RelV v u ∧ ∀ (M : Mo) (ρ : List Addr) (X : Addr → Prop) (H : Hp), M.K = K → Rp M ρ X H d v)
    (motive_2 := fun ds us _ => ∃ vs, Vals vs us ∧ ∀ (M : Mo) (ρ : List Addr) (X : Addr → Prop) (H : Hp), M.K = K → Rps M ρ X H ds vs) ?_ ?_ ?_ ?_ ?_ ?_ h
  · exact fun i t => ⟨.int i, ⟨t, rfl⟩, fun _ _ _ _ _ => .int i⟩
  · exact fun b => ⟨.bl b, rfl, fun _ _ _ _ _ => .bl b⟩
  · exact fun x t hx => ⟨.str x, ⟨t, rfl⟩, fun _ _ _ _ _ => .str x hx⟩
  · intro f ds od its n sl l hz _ ih
    obtain ⟨vs, h1, h2⟩ := ih
    exact ⟨.ref f, rfl, fun M ρ X H e => .tup (.inr ⟨_, its, n, by rw [e]; exact l, rfl, rfl, hz, h1⟩) (h2 M ρ X H e)⟩
  · exact ⟨[], .nil, fun _ _ _ _ _ => .nil⟩
  · intro a b as bs _ _ i1 i2
    obtain ⟨v, h1, h2⟩ := i1
    obtain ⟨vs, h3, h4⟩ := i2
    exact ⟨v :: vs, .cons h1 h3, fun M ρ X H e => .cons (h2 M ρ X H e) (h4 M ρ X H e)⟩
theorem lookup_mem {β : Type} : ∀ {l : List (Str × β)} {x : Str}, (l.map (·.1)).contains x = true → ∃ d, l.lookup x = some d ∧ (x, d) ∈ l
  | [], _, h => by simp at h
  | (y, d) :: l, x, h => by
    rw [List.lookup_cons]
    by_cases e : x = y
    · subst e
      exact ⟨d, by simp, List.mem_cons_self⟩
    · have h' : (l.map (·.1)).contains x = true := by
        simp only [List.map_cons, List.contains_cons, Bool.or_eq_true, beq_iff_eq] at h
        exact h.resolve_left e
      obtain ⟨d', h1, h2⟩ := lookup_mem h'
      have hb : (x == y) = false := by simpa using e
      rw [hb]
      exact ⟨d', h1, List.mem_cons_of_mem _ h2⟩
theorem glo_of {K : PySem.W.Frag} {h : Heap} {mg : Str → Option Value} {csts : List (Str × D)} {cs bl : List Str} (KX : K.In h) (G : h.Ns mainGlobals mg) (h1 : ∀ p ∈ csts, CstK K p.1 p.2) (h2 : csts.map (·.1) = cs) (h3 : ∀ x ∈ bl, PySem.W.nsIn K mainGlobals x = some none) : Glo K mg csts cs bl where
  csts := fun x hx => by
    rw [← h2] at hx
    obtain ⟨d, e1, e2⟩ := lookup_mem hx
    obtain ⟨u, a, c⟩ := h1 _ e2
    obtain ⟨v, r1, r2⟩ := c.to
    exact ⟨d, v, u, e1, PySem.W.mg_of KX G a, r1, fun M F ρ H e => r2 M ρ _ H e⟩
  blts := fun x hx => PySem.W.mg_none_of KX G (h3 x (by simpa using hx))
theorem z_mk {K : PySem.W.Frag} {h : Heap} (_ : K.In h) (x : Str) (a : PySem.W.nsIn K mainGlobals x = some none) : PySem.W.nsIn K mainGlobals x = some none := a
theorem z_then {K : PySem.W.Frag} {h : Heap} (_ : K.In h) (x : Str) {g : Prop} (a : PySem.W.nsIn K mainGlobals x = some none) (n : PySem.W.nsIn K mainGlobals x = some none → g) : g := n a
theorem cst_then {K : PySem.W.Frag} {h : Heap} (_ : K.In h) (x : Str) (d : D) {g : Prop} {u : Value} (a : PySem.W.nsIn K mainGlobals x = some (some u)) (c : CsR K d u) (n : CstK K x d → g) : g := n ⟨u, a, c⟩
theorem cst_mk {K : PySem.W.Frag} {h : Heap} (_ : K.In h) (x : Str) (d : D) {u : Value} (a : PySem.W.nsIn K mainGlobals x = some (some u)) (c : CsR K d u) : CstK K x d := ⟨u, a, c⟩
end Tc

/-! Tc: plain rules about the evaluator. -/
namespace Tc
open PySem L2
section
variable {G : Ctx} {e : Env} {h h' : Sto} {a b c d it : E} {i j : Nat} {x : D} {r : R} {X : Exn}
theorem env0_cons {n : Nat} {as : List D} : env0 (n + 1) (x :: as) = some x :: env0 n as := by
  unfold env0
  simp
theorem env0_nil {n : Nat} : env0 (n + 1) [] = none :: env0 n [] := by
  unfold env0
  simp [List.replicate_succ]
theorem env0_zero : env0 0 [] = [] := rfl
/-! one step each; only where a state is given -/
@[simp] theorem sh_d : (R.d x).sh = x := rfl
@[simp] theorem sh_tl {xs : List D} : (R.tl xs).sh = .lst xs := rfl
@[simp] theorem sh_td {xs : List (D × D)} : (R.td xs).sh = .dct xs := rfl
@[simp] theorem thenE_ok {k : D → Sto → Option Out} : thenE (some (.ok r h)) k = k r.sh h := rfl
@[simp] theorem thenE_ex {k : D → Sto → Option Out} : thenE (some (.ex X h)) k = some (.ex X h) := rfl
@[simp] theorem thenA_ok {ds : List D} {k : List D → Sto → Option Out} : thenA (some (.ok ds h)) k = k ds h := rfl
@[simp] theorem thenA_ex {k : List D → Sto → Option Out} : thenA (some (.ex X h)) k = some (.ex X h) := rfl
@[simp] theorem thenI_ok {k : D → Sto → Option OutI} : thenI (some (.ok r h)) k = k r.sh h := rfl
@[simp] theorem ofV_some : ofV (some r) h = some (.ok r h) := rfl
@[simp] theorem ofP_some : ofP (some (r, h)) = some (.ok r h) := rfl
@[simp] theorem ofB_some {b : Bool} : ofB (some b) h = some (.ok (.d (.bl b)) h) := rfl
@[simp] theorem newO_d : newO (some (.ok (.d x) h)) = some (.ok (.d x) h) := rfl
@[simp] theorem newO_tl {xs : List D} : newO (some (.ok (.tl xs) h)) = some (.ok (.d (.ref h.length)) (h ++ [.lst xs])) := rfl
@[simp] theorem newO_td {xs : List (D × D)} : newO (some (.ok (.td xs) h)) = some (.ok (.d (.ref h.length)) (h ++ [.dct xs])) := rfl
@[simp] theorem thenF_nx {k : Env → Sto → Option Fl} : thenF (some (.nx e h)) k = k e h := rfl
@[simp] theorem thenF_rt {k : Env → Sto → Option Fl} : thenF (some (.rt r h)) k = some (.rt r h) := rfl
@[simp] theorem thenF_ex {k : Env → Sto → Option Fl} : thenF (some (.ex X e h)) k = some (.ex X e h) := rfl
@[simp] theorem valF_ok {k : R → Sto → Option Fl} : valF (some (.ok r h)) e k = k r h := rfl
@[simp] theorem valF_ex {k : R → Sto → Option Fl} : valF (some (.ex X h)) e k = some (.ex X e h) := rfl
@[simp] theorem boolF_ok {b : Bool} {k : Bool → Sto → Option Fl} : boolF (some (.ok (.d (.bl b)) h)) e k = k b h := rfl
@[simp] theorem boolF_ex {k : Bool → Sto → Option Fl} : boolF (some (.ex X h)) e k = some (.ex X e h) := rfl
/-! what comes later is looked at later -/
theorem thenE_congr {o o' : Option Out} {k : D → Sto → Option Out} (q : o = o') : thenE o k = thenE o' k := by rw [q]
theorem thenA_congr {o o' : Option OutA} {k : List D → Sto → Option Out} (q : o = o') : thenA o k = thenA o' k := by rw [q]
theorem thenI_congr {o o' : Option Out} {k : D → Sto → Option OutI} (q : o = o') : thenI o k = thenI o' k := by rw [q]
theorem thenF_congr {o o' : Option Fl} {k : Env → Sto → Option Fl} (q : o = o') : thenF o k = thenF o' k := by rw [q]
theorem valF_congr {o o' : Option Out} {k : R → Sto → Option Fl} (q : o = o') : valF o e k = valF o' e k := by rw [q]
theorem boolF_congr {o o' : Option Out} {k : Bool → Sto → Option Fl} (q : o = o') : boolF o e k = boolF o' e k := by rw [q]
/-- what a name's slot holds -/
def getO : Option (Option D) → Sto → Option Out
  | some (some d), h => some (.ok (.d d) h)
  | _, _ => none
@[simp] theorem getO_some : getO (some (some x)) h = some (.ok (.d x) h) := rfl
@[simp] theorem ev_var : evE G (.var i) e h = getO e[i]? h := by
  rw [evE]
  cases e[i]? with
  | none => rfl
  | some o => cases o <;> rfl
@[simp] theorem ev_lit : evE G (.lit x) e h = some (.ok (.d x) h) := by rw [evE]
def cstO : Option D → Sto → Option Out
  | some d, h => some (.ok (.d d) h)
  | none, _ => none
@[simp] theorem cstO_some : cstO (some x) h = some (.ok (.d x) h) := rfl
@[simp] theorem ev_glob {y : Str} : evE G (.glob y) e h = cstO (G.cst y) h := by
  rw [evE]
  cases G.cst y <;> rfl
@[simp] theorem ev_call {f : Str} : evE G (.call f a) e h = thenA (evA G a e h) fun ds h1 => G.call f ds h1 := by rw [evE]
@[simp] theorem ev_b1 {o : B1} : evE G (.b1 o a) e h = thenE (evE G a e h) fun x h1 => ofV (b1v o h1 x) h1 := by rw [evE]
@[simp] theorem ev_b2 {o : B2} : evE G (.b2 o a c) e h = thenE (evE G a e h) fun x h1 => thenE (evE G c e h1) fun y h2 => ofV (b2v o x y) h2 := by rw [evE]
@[simp] theorem ev_bin {o : Bin} : evE G (.bin o a c) e h = thenE (evE G a e h) fun x h1 => thenE (evE G c e h1) fun y h2 => ofV (binv o h2 x y) h2 := by rw [evE]
@[simp] theorem ev_cmp {o : Cmp} : evE G (.cmp o a c) e h = thenE (evE G a e h) fun x h1 => thenE (evE G c e h1) fun y h2 => ofB (cmpv o h2 x y) h2 := by rw [evE]
def andO : D → Option Out → Sto → Option Out
  | .bl true, k, _ => k
  | .bl false, _, h => some (.ok (.d (.bl false)) h)
  | _, _, _ => none
def orO : D → Option Out → Sto → Option Out
  | .bl false, k, _ => k
  | .bl true, _, h => some (.ok (.d (.bl true)) h)
  | _, _, _ => none
@[simp] theorem andO_bl {b : Bool} {k : Option Out} : andO (.bl b) k h = if b = true then k else some (.ok (.d (.bl false)) h) := by cases b <;> rfl
@[simp] theorem orO_bl {b : Bool} {k : Option Out} : orO (.bl b) k h = if b = true then some (.ok (.d (.bl true)) h) else k := by cases b <;> rfl
theorem andO_congr {x x' : D} {k : Option Out} (q : x = x') : andO x k h = andO x' k h := by rw [q]
theorem orO_congr {x x' : D} {k : Option Out} (q : x = x') : orO x k h = orO x' k h := by rw [q]
@[simp] theorem ev_and : evE G (.and a c) e h = thenE (evE G a e h) fun x h1 => andO x (evE G c e h1) h1 := by
  rw [evE]
  congr 1
  funext x h1
  cases x <;> try rfl
  rename_i b
  cases b <;> rfl
@[simp] theorem ev_or : evE G (.or a c) e h = thenE (evE G a e h) fun x h1 => orO x (evE G c e h1) h1 := by
  rw [evE]
  congr 1
  funext x h1
  cases x <;> try rfl
  rename_i b
  cases b <;> rfl
def notO : D → Sto → Option Out
  | .bl b, h => some (.ok (.d (.bl (!b))) h)
  | _, _ => none
@[simp] theorem notO_bl {b : Bool} : notO (.bl b) h = some (.ok (.d (.bl (!b))) h) := rfl
@[simp] theorem ev_not : evE G (.not a) e h = thenE (evE G a e h) notO := by
  rw [evE]
  congr 1
  funext x h1
  cases x <;> rfl
@[simp] theorem ev_tup : evE G (.tup a) e h = thenA (evA G a e h) fun ds h1 => some (.ok (.d (.tup ds)) h1) := by rw [evE]
@[simp] theorem ev_lst : evE G (.lst a) e h = thenA (evA G a e h) fun ds h1 => some (.ok (.tl ds) h1) := by rw [evE]
@[simp] theorem ev_obj : evE G (.obj a) e h = newO (evE G a e h) := by rw [evE]
@[simp] theorem ev_dct {ks : List Str} : evE G (.dct ks a) e h = thenA (evA G a e h) fun ds h1 => if ks.length = ds.length ∧ ks.Nodup then some (.ok (.td ((ks.map D.str).zip ds)) h1) else none := by rw [evE]
@[simp] theorem ev_ix : evE G (.ix a b) e h = thenE (evE G a e h) fun x h1 => thenE (evE G b e h1) fun y h2 => ofV (ixv h2 x y) h2 := by rw [evE]
def slO (h : Sto) (x : D) (lo hi : Option D) : Option Out := match lo, hi with
  | some (.int l), some (.int u) => ofV (slv h x (some l) (some u)) h
  | some (.int l), none => ofV (slv h x (some l) none) h
  | none, some (.int u) => ofV (slv h x none (some u)) h
  | _, _ => none
@[simp] theorem slO_2 {l u : Int} : slO h x (some (.int l)) (some (.int u)) = ofV (slv h x (some l) (some u)) h := rfl
@[simp] theorem slO_f {l : Int} : slO h x (some (.int l)) none = ofV (slv h x (some l) none) h := rfl
@[simp] theorem slO_t {u : Int} : slO h x none (some (.int u)) = ofV (slv h x none (some u)) h := rfl
@[simp] theorem ev_slf : evE G (.slf a b) e h = thenE (evE G a e h) fun x h1 => thenE (evE G b e h1) fun l h2 => slO h2 x (some l) none := by
  rw [evE]
  congr 1
  funext x h1
  congr 1
  funext l h2
  cases l <;> rfl
@[simp] theorem ev_slt : evE G (.slt a b) e h = thenE (evE G a e h) fun x h1 => thenE (evE G b e h1) fun l h2 => slO h2 x none (some l) := by
  rw [evE]
  congr 1
  funext x h1
  congr 1
  funext l h2
  cases l <;> rfl
def intO : D → Option Out → Option Out
  | .int _, k => k
  | _, _ => none
@[simp] theorem intO_int {l : Int} {k : Option Out} : intO (.int l) k = k := rfl
@[simp] theorem ev_sl : evE G (.sl a b c) e h = thenE (evE G a e h) fun x h1 => thenE (evE G b e h1) fun l h2 => intO l (thenE (evE G c e h2) fun u h3 => slO h3 x (some l) (some u)) := by
  rw [evE]
  congr 1
  funext x h1
  congr 1
  funext l h2
  cases l <;> try rfl
  simp only [intO]
  congr 1
  funext u h3
  cases u <;> rfl
@[simp] theorem ev_isi {ts : List Tp} : evE G (.isi a ts) e h = thenE (evE G a e h) fun x h1 => ofB (isTps x ts) h1 := by rw [evE]
@[simp] theorem ev_met {m : Me} : evE G (.met m a b) e h = thenE (evE G a e h) fun x h1 => if recvOk m h1 x = true then thenA (evA G b e h1) fun ds h2 => ofP (metv m h2 x ds) else none := by rw [evE]
@[simp] theorem evA_nil : evA G .anil e h = some (.ok [] h) := by rw [evA]
def consA : Option Out → (Sto → Option OutA) → Option OutA
  | some (.ok x h1), k => match k h1 with
    | some (.ok ds h2) => some (.ok (x.sh :: ds) h2)
    | o => o
  | some (.ex x h1), _ => some (.ex x h1)
  | none, _ => none
def putA : D → Option OutA → Option OutA
  | x, some (.ok ds h2) => some (.ok (x :: ds) h2)
  | _, o => o
@[simp] theorem putA_ok {ds : List D} : putA x (some (.ok ds h)) = some (.ok (x :: ds) h) := rfl
@[simp] theorem putA_ex : putA x (some (.ex X h)) = some (.ex X h) := rfl
@[simp] theorem consA_ok {k : Sto → Option OutA} : consA (some (.ok r h)) k = putA r.sh (k h) := by
  show (match k h with | some (.ok ds h2) => some (.ok (r.sh :: ds) h2) | o => o) = putA r.sh (k h)
  cases k h with
  | none => rfl
  | some o => cases o <;> rfl
@[simp] theorem consA_ex {k : Sto → Option OutA} : consA (some (.ex X h)) k = some (.ex X h) := rfl
theorem consA_congr {o o' : Option Out} {k : Sto → Option OutA} (q : o = o') : consA o k = consA o' k := by rw [q]
@[simp] theorem evA_cons : evA G (.acons a b) e h = consA (evE G a e h) fun h1 => evA G b e h1 := by
  rw [evA]
  cases evE G a e h with
  | none => rfl
  | some o => cases o <;> rfl
@[simp] theorem evI_seq : evI G (.iseq a) e h = thenI (evE G a e h) fun x h1 => seqI x h1 := by rw [evI]
@[simp] theorem evI_rng1 : evI G (.irng1 a) e h = thenI (evE G a e h) fun x h1 => rngI1 x h1 := by rw [evI]
@[simp] theorem evI_rng2 : evI G (.irng2 a b) e h = thenI (evE G a e h) fun x h1 => thenI (evE G b e h1) fun y h2 => rngI2 x y h2 := by rw [evI]
@[simp] theorem evI_rng3 : evI G (.irng3 a b c) e h = thenI (evE G a e h) fun x h1 => thenI (evE G b e h1) fun y h2 => thenI (evE G c e h2) fun z h3 => rngI3 x y z h3 := by rw [evI]
@[simp] theorem evI_enum : evI G (.ienum a) e h = thenI (evE G a e h) fun x h1 => enumI x h1 := by rw [evI]
@[simp] theorem evI_zip : evI G (.izip a b) e h = thenI (evE G a e h) fun x h1 => thenI (evE G b e h1) fun y h2 => zipI x y h2 := by rw [evI]
/-- a comprehension's end -/
def lcO : Option OutI → (Sto → D → Option (Option D × Sto)) → Option Out
  | some (.ok ds none h1), f => if ds.length ≤ 1000000 then match lcL (fun x h => f h x) ds h1 with
      | some (ys, h2) => some (.ok (.tl ys) h2)
      | none => none
    else none
  | _, _ => none
theorem ev_lc {vs : List Nat} {t : T} : evE G (.lc vs t it d) e h = lcO (evI G it e h) fun h x => lcTurn t (wipeE e vs) none (evE G d) x h := by
  rw [evE]
  cases evI G it e h with
  | none => rfl
  | some o => cases o with
    | ok ds src h1 => cases src <;> rfl
    | ex x h1 => rfl
theorem ev_lcc {vs : List Nat} {t : T} : evE G (.lcc vs t it c d) e h = lcO (evI G it e h) fun h x => lcTurn t (wipeE e vs) (some (evE G c)) (evE G d) x h := by
  rw [evE]
  cases evI G it e h with
  | none => rfl
  | some o => cases o with
    | ok ds src h1 => cases src <;> rfl
    | ex x h1 => rfl
/-- each turn without a trace in the store: the values alone -/
theorem lcL_pure {f : D → Sto → Option (Option D × Sto)} {g : D → Option D} : ∀ {ds : List D}, (∀ x ∈ ds, f x h = some (g x, h)) → lcL f ds h = some (ds.filterMap g, h)
  | [], _ => rfl
  | x :: r, q => by
    rw [lcL, q x List.mem_cons_self]
    cases hg : g x with
    | none => simp only; rw [lcL_pure fun y hy => q y (List.mem_cons_of_mem _ hy), List.filterMap_cons_none hg]
    | some y => simp only; rw [lcL_pure fun y hy => q y (List.mem_cons_of_mem _ hy), List.filterMap_cons_some hg]
theorem lc_pure {vs : List Nat} {t : T} {ds : List D} {g : D → D} (hi : evI G it e h = some (.ok ds none h')) (hl : ds.length ≤ 1000000) (hf : ∀ x ∈ ds, lcTurn t (wipeE e vs) none (evE G d) x h' = some (some (g x), h')) : evE G (.lc vs t it d) e h = some (.ok (.tl (ds.map g)) h') := by
  rw [ev_lc, hi, lcO, if_pos hl, lcL_pure (g := fun x => some (g x)) hf]
  simp
theorem lcc_pure {vs : List Nat} {t : T} {ds : List D} {g : D → Option D} (hi : evI G it e h = some (.ok ds none h')) (hl : ds.length ≤ 1000000) (hf : ∀ x ∈ ds, lcTurn t (wipeE e vs) (some (evE G c)) (evE G d) x h' = some (g x, h')) : evE G (.lcc vs t it c d) e h = some (.ok (.tl (ds.filterMap g)) h') := by
  rw [ev_lcc, hi, lcO, if_pos hl, lcL_pure (g := g) hf]
variable {s s1 s2 : S} {t : T} {m : E}
@[simp] theorem ex_nil : exS G .nil e h = some (.nx e h) := by rw [exS]
@[simp] theorem ex_pass : exS G .pass e h = some (.nx e h) := by rw [exS]
@[simp] theorem ex_cons : exS G (.cons s1 s2) e h = thenF (exS G s1 e h) (exS G s2) := by rw [exS]
@[simp] theorem ex_set : exS G (.set t m) e h = valF (evE G m e h) e fun r h1 => setT t r e h1 := by rw [exS]
@[simp] theorem ex_par : exS G (.par i j a c) e h = valF (evE G a e h) e fun x h1 => valF (evE G c e h1) e fun y h2 => some (.nx ((e.set i (some x.sh)).set j (some y.sh)) h2) := by rw [exS]
@[simp] theorem ex_setix : exS G (.setix a b m) e h = valF (evE G m e h) e fun r h1 => valF (evE G a e h1) e fun ro h2 => valF (evE G b e h2) e fun ri h3 => setixV h3 ro.sh ri.sh r.sh e := by rw [exS]
def augO : Option (Option D) → Bin → Option Out → Env → Nat → Option Fl
  | some (some d), o, x, e, i => valF x e fun r h1 => match o, d, r with
      | .add, .int a, .d (.int b) => some (.nx (e.set i (some (.int (a + b)))) h1)
      | _, _, _ => none
  | _, _, _, _, _ => none
@[simp] theorem augO_int {p q : Int} : augO (some (some (.int p))) .add (some (.ok (.d (.int q)) h)) e i = some (.nx (e.set i (some (.int (p + q)))) h) := rfl
@[simp] theorem ex_aug {o : Bin} : exS G (.aug i o m) e h = augO e[i]? o (evE G m e h) e i := by
  rw [exS]
  cases e[i]? with
  | none => rfl
  | some o => cases o <;> rfl
@[simp] theorem ex_ret : exS G (.ret m) e h = valF (evE G m e h) e fun r h1 => some (.rt r h1) := by rw [exS]
@[simp] theorem ex_retn : exS G .retn e h = some (.rt (.d .non) h) := by rw [exS]
@[simp] theorem ex_ifs : exS G (.ifs m s1 s2) e h = boolF (evE G m e h) e fun k h1 => if k = true then exS G s1 e h1 else exS G s2 e h1 := by rw [exS]
@[simp] theorem ex_whl : exS G (.whl m s) e h = whlC (evE G m) (exS G s) e h := by rw [exS]
noncomputable def frO (t : T) (b : Env → Sto → Option Fl) (e : Env) : Option OutI → Option Fl
  | some (.ok ds src h1) => forL src ds t b ds e h1
  | some (.ex x h1) => some (.ex x e h1)
  | none => none
@[simp] theorem frO_ok {f : Env → Sto → Option Fl} {ds : List D} {src : Option Nat} : frO t f e (some (.ok ds src h)) = forL src ds t f ds e h := rfl
@[simp] theorem ex_fr : exS G (.fr t m s) e h = frO t (exS G s) e (evI G m e h) := by
  rw [exS]
  cases evI G m e h with
  | none => rfl
  | some o => cases o <;> rfl
@[simp] theorem ex_expr : exS G (.expr m) e h = valF (evE G m e h) e fun _ h1 => some (.nx e h1) := by rw [exS]
@[simp] theorem setT_vd : setT (.v i) r e h = some (.nx (e.set i (some r.sh)) h) := by cases r <;> rfl
@[simp] theorem setT_md : setT (.m i) (.d x) e h = some (.nx (e.set i (some x)) h) := rfl
@[simp] theorem setT_mtl {xs : List D} : setT (.m i) (.tl xs) e h = some (.nx (e.set i (some (.ref h.length))) (h ++ [.lst xs])) := rfl
@[simp] theorem setT_mtd {xs : List (D × D)} : setT (.m i) (.td xs) e h = some (.nx (e.set i (some (.ref h.length))) (h ++ [.dct xs])) := rfl
@[simp] theorem setT_tp {ts : T} : setT (.tp ts) r e h = (bindT (.tp ts) r.sh e h).map fun e1 => .nx e1 h := by cases r <;> rfl
@[simp] theorem bindT_v : bindT (.v i) x e h = some (e.set i (some x)) := by rw [bindT]
@[simp] theorem bindT_tup {ts : T} {xs : List D} : bindT (.tp ts) (.tup xs) e h = bindTs ts xs e h := by rw [bindT]
@[simp] theorem bindT_lst {ts : T} {xs : List D} : bindT (.tp ts) (.lst xs) e h = bindTs ts xs e h := by rw [bindT]
@[simp] theorem bindTs_nil : bindTs .nil [] e h = some e := by rw [bindTs]
@[simp] theorem bindTs_cons {ts : T} {xs : List D} : bindTs (.cons t ts) (x :: xs) e h = (bindT t x e h).bind fun e1 => bindTs ts xs e1 h := by rw [bindTs]
/-! values -/
variable {p q : Int} {u v : Str} {xs ys : List D}
@[simp] theorem bin_add : binv .add h (.int p) (.int q) = some (.d (.int (p + q))) := rfl
@[simp] theorem bin_sub : binv .sub h (.int p) (.int q) = some (.d (.int (p - q))) := rfl
theorem bin_mul (hm : mulOk p q) : binv .mul h (.int p) (.int q) = some (.d (.int (p * q))) := if_pos hm
theorem bin_mod (hq : q ≠ 0) : binv .mod h (.int p) (.int q) = some (.d (.int (p.fmod q))) := if_pos hq
theorem bin_fdiv (hq : q ≠ 0) (hl : q.natAbs.log2 < 9000) : binv .fdiv h (.int p) (.int q) = some (.d (.int (p.fdiv q))) := if_pos ⟨hq, hl⟩
theorem bin_pow (h1 : 0 ≤ q ∧ q ≤ 1000000 ∧ p.natAbs < 2 ^ 64) : binv .pow h (.int p) (.int q) = some (.d (.int (p ^ q.toNat))) := if_pos h1
theorem bin_addt (hl : xs.length + ys.length ≤ sizeLine) : binv .add h (.tup xs) (.tup ys) = some (.d (.tup (xs ++ ys))) := if_pos hl
theorem bin_addl (hl : xs.length + ys.length ≤ sizeLine) : binv .add h (.lst xs) (.lst ys) = some (.tl (xs ++ ys)) := if_pos hl
theorem bin_adds (hl : u.length + v.length ≤ sizeLine) : binv .add h (.str u) (.str v) = some (.d (.str (u ++ v))) := if_pos hl
@[simp] theorem cmp_eqi : cmpv .eq h (.int p) (.int q) = some (decide (p = q)) := by
  simp [cmpv, eqvS, items, datS, D.dat, PyData.eqv, PyData.depth]
  rfl
@[simp] theorem cmp_nei : cmpv .ne h (.int p) (.int q) = some (!decide (p = q)) := by
  simp [cmpv, eqvS, items, datS, D.dat, PyData.eqv, PyData.depth]
  rfl
@[simp] theorem cmp_eqs : cmpv .eq h (.str u) (.str v) = some (decide (u = v)) := by
  simp [cmpv, eqvS, items, datS, D.dat, PyData.eqv, PyData.depth]
  rfl
@[simp] theorem cmp_nes : cmpv .ne h (.str u) (.str v) = some (!decide (u = v)) := by
  simp [cmpv, eqvS, items, datS, D.dat, PyData.eqv, PyData.depth]
  rfl
@[simp] theorem cmp_lt : cmpv .lt h (.int p) (.int q) = some (decide (p < q)) := rfl
@[simp] theorem cmp_le : cmpv .le h (.int p) (.int q) = some (decide (p ≤ q)) := rfl
@[simp] theorem cmp_gt : cmpv .gt h (.int p) (.int q) = some (decide (q < p)) := rfl
@[simp] theorem cmp_ge : cmpv .ge h (.int p) (.int q) = some (decide (q ≤ p)) := rfl
@[simp] theorem cmp_isb {a b : Bool} : cmpv .is h (.bl a) (.bl b) = some (decide (a = b)) := rfl
@[simp] theorem cmp_isntb {a b : Bool} : cmpv .isnt h (.bl a) (.bl b) = some (!decide (a = b)) := rfl
@[simp] theorem cmp_isnn : cmpv .is h .non .non = some true := rfl
@[simp] theorem cmp_isntnn : cmpv .isnt h .non .non = some false := rfl
@[simp] theorem cmp_mem {y : D} : cmpv .mem h x y = memv h x y := rfl
@[simp] theorem cmp_nmem {y : D} : cmpv .nmem h x y = (memv h x y).map (!·) := rfl
@[simp] theorem b1_lentup : b1v .len h (.tup xs) = some (.d (.int xs.length)) := rfl
@[simp] theorem b1_lenlst : b1v .len h (.lst xs) = some (.d (.int xs.length)) := rfl
@[simp] theorem b1_lenfz : b1v .len h (.fz xs) = some (.d (.int xs.length)) := rfl
@[simp] theorem b1_abs : b1v .abs h (.int p) = some (.d (.int p.natAbs)) := by
  show some (R.d (.int _)) = _
  congr 3
  split <;> omega
@[simp] theorem b1_tuplst : b1v .tuple h (.lst xs) = some (.d (.tup xs)) := rfl
@[simp] theorem b1_tuptup : b1v .tuple h (.tup xs) = some (.d (.tup xs)) := rfl
@[simp] theorem b1_lsttup : b1v .list h (.tup xs) = some (.tl xs) := rfl
@[simp] theorem b1_lstlst : b1v .list h (.lst xs) = some (.tl xs) := rfl
@[simp] theorem b1_int : b1v .int h (.int p) = some (.d (.int p)) := rfl
@[simp] theorem b1_intb {b : Bool} : b1v .int h (.bl b) = some (.d (.int (if b = true then 1 else 0))) := rfl
@[simp] theorem b2_min : b2v .min (.int p) (.int q) = some (.d (.int (min p q))) := by
  show some (R.d (.int _)) = _
  congr 3
  split <;> omega
@[simp] theorem b2_max : b2v .max (.int p) (.int q) = some (.d (.int (max p q))) := by
  show some (R.d (.int _)) = _
  congr 3
  split <;> omega
@[simp] theorem ix_tup : ixv h (.tup xs) (.int p) = (L2.atI xs p).map .d := rfl
@[simp] theorem ix_lst : ixv h (.lst xs) (.int p) = (L2.atI xs p).map .d := rfl
@[simp] theorem ix_fz : ixv h (.fz xs) (.int p) = (L2.atI xs p).map .d := rfl
theorem atI_nat {α : Type} {xs : List α} {n : Nat} : L2.atI xs (n : Int) = xs[n]? := by
  unfold L2.atI L2.ixN
  rw [if_pos (by omega)]
  by_cases hn : n < xs.length
  · rw [if_pos (by omega)]
    simp
  · rw [if_neg (by omega), List.getElem?_eq_none (by omega)]
    rfl
@[simp] theorem atI_0 {α : Type} {x : α} {xs : List α} : L2.atI (x :: xs) 0 = some x := atI_nat (n := 0)
@[simp] theorem atI_1 {α : Type} {x y : α} {xs : List α} : L2.atI (x :: y :: xs) 1 = some y := atI_nat (n := 1)
@[simp] theorem atI_2 {α : Type} {x y z : α} {xs : List α} : L2.atI (x :: y :: z :: xs) 2 = some z := atI_nat (n := 2)
theorem atI_last {α : Type} {x : α} {xs : List α} : L2.atI (xs ++ [x]) (-1) = some x := by
  unfold L2.atI L2.ixN
  have hl : (xs ++ [x]).length = xs.length + 1 := by simp
  rw [if_neg (by omega), if_pos (by omega)]
  show (xs ++ [x])[_]? = _
  have e : (-1 + ((xs ++ [x]).length : Int)).toNat = xs.length := by omega
  rw [e]
  simp
theorem mem_str : memv h (.str u) (.str v) = if u.cps.size = 1 then some (decide (u.cps.getD 0 0 ∈ v.cps.toList)) else none := by
  show memv h (.str u) (.str v) = _
  simp only [memv]
theorem mem_stup : memv h (.str u) (.tup xs) = if xs.all D.flat = true then some (L2.inV (.str u) (xs.map D.toV)) else none := by
  simp only [memv, D.flat, true_and]
  rfl
@[simp] theorem isTps_nil : isTps x [] = some false := rfl
def tpO : Option Bool → Option Bool → Option Bool
  | some true, _ => some true
  | some false, k => k
  | none, _ => none
@[simp] theorem tpO_some {b : Bool} {k : Option Bool} : tpO (some b) k = if b = true then some true else k := by cases b <;> rfl
@[simp] theorem isTps_one {t : Tp} : isTps x [t] = isTp x t := by
  unfold isTps
  cases isTp x t with
  | none => rfl
  | some b => cases b <;> rfl
@[simp] theorem isTp_non {t : Tp} : isTp .non t = some false := by cases t <;> rfl
@[simp] theorem isTp_int {t : Tp} : isTp (.int p) t = some (decide (t = .int)) := by cases t <;> rfl
@[simp] theorem isTp_bl {b : Bool} {t : Tp} : isTp (.bl b) t = some (decide (t = .int ∨ t = .bool)) := by cases t <;> rfl
@[simp] theorem isTp_str {t : Tp} : isTp (.str u) t = some (decide (t = .str)) := by cases t <;> rfl
@[simp] theorem isTp_tup {t : Tp} : isTp (.tup xs) t = some (decide (t = .tuple)) := by cases t <;> rfl
@[simp] theorem isTp_lst {t : Tp} : isTp (.lst xs) t = some (decide (t = .list)) := by cases t <;> rfl
@[simp] theorem isTp_dct {kv : List (D × D)} {t : Tp} : isTp (.dct kv) t = some false := by cases t <;> rfl
@[simp] theorem seqI_tup : seqI (.tup xs) h = some (.ok xs none h) := rfl
@[simp] theorem seqI_lst : seqI (.lst xs) h = some (.ok xs none h) := rfl
@[simp] theorem seqI_fz : seqI (.fz xs) h = some (.ok xs none h) := rfl
@[simp] theorem seqI_str : seqI (.str u) h = some (.ok (u.cps.toList.map fun c => .str ⟨#[c]⟩) none h) := rfl
end
section
variable {P : Prog} {k : Nat}
theorem callF_eq {f : Str} {d : Def} {as : List D} {h : Sto} (hl : P.defs.lookup f = some d) (hn : as.length = d.np) : callF P (k + 1) f as h = fin d.keep h (exS (ctx P k) d.body (env0 d.n as) h) := by
  rw [callF, hl]
  dsimp only
  rw [if_pos hn]
end
/-! ### trimming -/
def R.low (n : Nat) : R → Bool
  | .d x => x.low n
  | .tl xs => lows n xs
  | .td kvs => lowp n kvs
theorem tidy_app {h g : Sto} : tidy h (h ++ g) := fun i hi => .inl (List.getElem?_append_left hi)
theorem tidy_self {h : Sto} : tidy h h := fun i hi => .inl rfl
mutual
theorem frz_low {n : Nat} {h : Sto} : ∀ {d : D}, d.low n = true → frz n h d = some d
  | .ref m, q => by
    rw [frz, if_pos (by simpa [D.low] using q)]
  | .tup xs, q => by
    rw [frz, frzs_low (by simpa [D.low] using q)]
    rfl
  | .non, q => by simp only [frz, q, if_true]
  | .bl _, q => by simp only [frz, q, if_true]
  | .int _, q => by simp only [frz, q, if_true]
  | .str _, q => by simp only [frz, q, if_true]
  | .lst _, q => by simp only [frz, q, if_true]
  | .fz _, q => by simp only [frz, q, if_true]
  | .dct _, q => by simp only [frz, q, if_true]
  | .exn _ _, q => by simp only [frz, q, if_true]
theorem frzs_low {n : Nat} {h : Sto} : ∀ {ds : List D}, lows n ds = true → frzs n h ds = some ds
  | [], _ => by rw [frzs]
  | d :: r, q => by
    simp only [lows, Bool.and_eq_true] at q
    rw [frzs, frz_low q.1, frzs_low q.2]
    rfl
end
theorem retV_app {h g : Sto} {r : R} (hr : r.low h.length = true) : retV false h r (h ++ g) = .ok r h := by
  have ht : (h ++ g).take h.length = h := by simp
  unfold retV
  rw [if_pos ⟨rfl, tidy_app⟩, ht]
  cases r with
  | d d =>
    cases d with
    | ref m => dsimp only; rw [if_pos (by simpa [R.low, D.low] using hr)]
    | _ => dsimp only; rw [frz_low hr]
  | tl xs => dsimp only; rw [if_pos (by simpa [R.low] using hr)]
  | td xs => dsimp only; rw [if_pos (by simpa [R.low] using hr)]
theorem retV_self {keep : Bool} {h : Sto} {r : R} (hr : r.low h.length = true) : retV keep h r h = .ok r h := by
  cases keep with
  | true => unfold retV; rw [if_neg (by simp)]
  | false =>
    have z := retV_app (g := []) hr
    rw [List.append_nil] at z
    exact z
theorem retV_new {h g : Sto} {xs : List D} {j : Nat} (hj : g[j]? = some (.lst xs)) (hr : lows h.length xs = true) : retV false h (.d (.ref (h.length + j))) (h ++ g) = .ok (.tl xs) h := by
  have ht : (h ++ g).take h.length = h := by simp
  unfold retV
  rw [if_pos ⟨rfl, tidy_app⟩, ht]
  dsimp only
  rw [if_neg (by omega), List.getElem?_append_right (by omega), Nat.add_sub_cancel_left, hj]
  dsimp only
  rw [if_pos hr]
theorem retV_new0 {h g : Sto} {xs : List D} (hr : lows h.length xs = true) : retV false h (.d (.ref h.length)) (h ++ .lst xs :: g) = .ok (.tl xs) h := retV_new (j := 0) rfl hr
@[simp] theorem fin_nx {keep : Bool} {h h' : Sto} {e : Env} : fin keep h (some (.nx e h')) = some (retV keep h (.d .non) h') := rfl
@[simp] theorem fin_rt {keep : Bool} {h h' : Sto} {r : R} : fin keep h (some (.rt r h')) = some (retV keep h r h') := rfl
theorem fin_ex {keep : Bool} {h : Sto} {x : Exn} {e : Env} {g : Sto} (hx : lowf h.length x.fs = true) : fin keep h (some (.ex x e (h ++ g))) = some (.ex x h) := by
  have ht : (h ++ g).take h.length = h := by simp
  rw [fin, if_pos ⟨tidy_app, hx⟩, ht]
@[simp] theorem low_int {n : Nat} {i : Int} : D.low n (.int i) = true := by simp [D.low]
@[simp] theorem low_bl {n : Nat} {i : Bool} : D.low n (.bl i) = true := by simp [D.low]
@[simp] theorem low_non {n : Nat} : D.low n .non = true := by simp [D.low]
@[simp] theorem low_str {n : Nat} {i : Str} : D.low n (.str i) = true := by simp [D.low]
@[simp] theorem low_tup {n : Nat} {xs : List D} : D.low n (.tup xs) = lows n xs := by simp [D.low]
@[simp] theorem low_lst {n : Nat} {xs : List D} : D.low n (.lst xs) = lows n xs := by simp [D.low]
@[simp] theorem low_dct {n : Nat} {xs : List (D × D)} : D.low n (.dct xs) = lowp n xs := by simp [D.low]
@[simp] theorem low_nil {n : Nat} : lows n [] = true := by simp [lows]
@[simp] theorem low_cons {n : Nat} {x : D} {r : List D} : lows n (x :: r) = (D.low n x && lows n r) := by simp [lows]
@[simp] theorem lowp_nil {n : Nat} : lowp n [] = true := by simp [lowp]
@[simp] theorem lowp_cons {n : Nat} {x y : D} {r : List (D × D)} : lowp n ((x, y) :: r) = (D.low n x && D.low n y && lowp n r) := by simp [lowp]
@[simp] theorem Rlow_d {n : Nat} {d : D} : R.low n (.d d) = d.low n := rfl
@[simp] theorem Rlow_tl {n : Nat} {d : List D} : R.low n (.tl d) = lows n d := rfl
@[simp] theorem Rlow_td {n : Nat} {d : List (D × D)} : R.low n (.td d) = lowp n d := rfl
theorem lows_iff {n : Nat} : ∀ {xs : List D}, lows n xs = true ↔ ∀ x ∈ xs, x.low n = true
  | [] => by simp
  | x :: r => by simp [lows_iff (xs := r)]
/-! ### whole numbers -/
theorem gcd_fmod (a b : Int) : Int.gcd b (a.fmod b) = Int.gcd a b := by
  have h : a.fmod b = a - b * a.fdiv b := Int.fmod_def a b
  rw [h, Int.gcd_comm a b]
  exact Int.gcd_sub_mul_left_right b a (a.fdiv b)
theorem fmod_lt (a : Int) {b : Int} (hb : b ≠ 0) : (a.fmod b).natAbs < b.natAbs := by
  rcases Int.lt_or_gt_of_ne hb with h | h
  · have e : a.fmod b = -((-a).fmod (-b)) := by rw [Int.neg_fmod_neg]; omega
    have h1 := Int.fmod_lt_of_pos (-a) (b := -b) (by omega)
    have h2 := Int.fmod_nonneg_of_pos (-a) (b := -b) (by omega)
    omega
  · have h1 := Int.fmod_lt_of_pos a h
    have h2 := Int.fmod_nonneg_of_pos a h
    omega
/-! ### bounds -/
theorem log2_le {n : Nat} (h : n < 2 ^ 64) : n.log2 < 9000 := by
  by_cases h0 : n = 0
  · subst h0; decide
  · exact Nat.lt_trans ((Nat.log2_lt h0).mpr h) (by decide)
theorem log2_le' {n k : Nat} (hk : k ≤ 8999) (h : n < 2 ^ k) : n.log2 < 9000 := by
  by_cases h0 : n = 0
  · subst h0; decide
  · exact Nat.lt_of_lt_of_le ((Nat.log2_lt h0).mpr h) (by omega)
theorem mul_r {h : Sto} {p q : Int} (hq : -(2 ^ 64) < q ∧ q < 2 ^ 64) : binv .mul h (.int p) (.int q) = some (.d (.int (p * q))) := bin_mul (.inr (.inl hq))
theorem mul_l {h : Sto} {p q : Int} (hp : -(2 ^ 64) < p ∧ p < 2 ^ 64) : binv .mul h (.int p) (.int q) = some (.d (.int (p * q))) := bin_mul (.inl hp)
theorem div_s {h : Sto} {p q : Int} (h0 : q ≠ 0) (hq : q.natAbs < 2 ^ 64) : binv .fdiv h (.int p) (.int q) = some (.d (.int (p.fdiv q))) := bin_fdiv h0 (log2_le hq)
theorem atI_fmod {α : Type} {xs : List α} {n L : Int} (hl : L = xs.length) (h0 : 0 < L) : ∃ x ∈ xs, L2.atI xs (n.fmod L) = some x := by
  have h1 := Int.fmod_nonneg_of_pos n h0
  have h2 := Int.fmod_lt_of_pos n h0
  obtain ⟨m, hm⟩ : ∃ m : Nat, n.fmod L = m := ⟨(n.fmod L).toNat, by omega⟩
  have hlt : m < xs.length := by omega
  exact ⟨xs[m], List.getElem_mem hlt, by rw [hm, atI_nat, List.getElem?_eq_getElem hlt]⟩
theorem forL_inv {all : List D} {t : T} {b : Env → Sto → Option Fl} (I : Nat → Env → Sto → Prop) : ∀ {ds : List D} {i : Nat} {e : Env} {h : Sto}, I i e h →
    (∀ j x, ds[j]? = some x → ∀ e h, I (i + j) e h → ∃ e1 e2 h2, bindT t x e h = some e1 ∧ b e1 h = some (.nx e2 h2) ∧ I (i + j + 1) e2 h2) →
    ∃ e' h', forL none all t b ds e h = some (.nx e' h') ∧ I (i + ds.length) e' h'
  | [], i, e, h, hi, _ => ⟨e, h, by rw [forL, if_pos (show srcOk none _ _ from trivial)], hi⟩
  | x :: r, i, e, h, hi, st => by
    obtain ⟨e1, e2, h2, q1, q2, q3⟩ := st 0 x rfl e h hi
    obtain ⟨e', h', q4, q5⟩ := forL_inv I (ds := r) (i := i + 1) q3 fun j y hy e h hI => by
      have z := st (j + 1) y (by simpa using hy) e h (by rw [show i + (j + 1) = i + 1 + j from by omega]; exact hI)
      rw [show i + (j + 1) + 1 = i + 1 + j + 1 from by omega] at z
      exact z
    refine ⟨e', h', ?_, by rw [List.length_cons, show i + (r.length + 1) = i + 1 + r.length from by omega]; exact q5⟩
    rw [forL, if_pos (show srcOk none _ _ from trivial), q1]
    dsimp only
    rw [q2]
    exact q4
theorem cutD_last2 {ys : List D} {a b : D} : cutD (ys ++ [a, b]) (some (-2)) none = [a, b] := by
  have e : HT.sIx (ys ++ [a, b]).length 0 (some (-2)) = ys.length := by
    simp [HT.sIx]
    omega
  have e2 : HT.sIx (ys ++ [a, b]).length (ys ++ [a, b]).length none = (ys ++ [a, b]).length := rfl
  rw [cutD, e, e2]
  simp
theorem cutD_but2 {ys : List D} {a b : D} : cutD (ys ++ [a, b]) none (some (-2)) = ys := by
  have e : HT.sIx (ys ++ [a, b]).length (ys ++ [a, b]).length (some (-2)) = ys.length := by
    simp [HT.sIx]
    omega
  have e2 : HT.sIx (ys ++ [a, b]).length 0 none = 0 := rfl
  rw [cutD, e, e2]
  simp
/-! ### the youngest object -/
theorem last_at {h : Sto} {o : Ob} : (h ++ [o])[h.length]? = some o := by simp
theorem setix_last {h : Sto} {xs : List D} {n : Nat} {x : D} {e : Env} (hn : n < xs.length) : setixV (h ++ [.lst xs]) (.ref h.length) (.int n) x e = some (.nx e (h ++ [.lst (xs.set n x)])) := by
  unfold setixV
  have e1 : L2.ixN xs.length (n : Int) = some n := by
    unfold L2.ixN
    rw [if_pos (by omega), if_pos (by omega)]
    simp
  simp [e1]
theorem ix_last {h : Sto} {xs : List D} {i : Int} : ixv (h ++ [.lst xs]) (.ref h.length) (.int i) = (L2.atI xs i).map .d := by
  simp [ixv, items]
theorem ix_str {h : Sto} {z : Str} {i : Int} (hz : z.length ≤ sizeLine) : ixv h (.str z) (.int i) = (L2.atI z.cps.toList i).map fun c => .d (.str ⟨#[c]⟩) := if_pos hz
theorem len_last {h : Sto} {xs : List D} : b1v .len (h ++ [.lst xs]) (.ref h.length) = some (.d (.int xs.length)) := by
  simp [b1v, items]
/-! ### what is wanted of a body's run -/
def Wp0 (o : Option Fl) (N : Env → Sto → Prop) (Rt : R → Sto → Prop) (X : Exn → Env → Sto → Prop) : Prop := match o with
  | some (.nx e h) => N e h
  | some (.rt r h) => Rt r h
  | some (.ex x e h) => X x e h
  | none => False
structure Wp (o : Option Fl) (N : Env → Sto → Prop) (Rt : R → Sto → Prop) (X : Exn → Env → Sto → Prop) : Prop where
  of : Wp0 o N Rt X
theorem wp_iff {o : Option Fl} {N : Env → Sto → Prop} {Rt : R → Sto → Prop} {X : Exn → Env → Sto → Prop} : Wp o N Rt X = Wp0 o N Rt X := propext ⟨fun h => h.of, fun h => ⟨h⟩⟩
section
variable {N N' : Env → Sto → Prop} {Rt Rt' : R → Sto → Prop} {X : Exn → Env → Sto → Prop} {e : Env} {h : Sto} {r : R} {x : Exn}
@[simp] theorem wp_nx : Wp (some (.nx e h)) N Rt X = N e h := wp_iff
@[simp] theorem wp_rt : Wp (some (.rt r h)) N Rt X = Rt r h := wp_iff
@[simp] theorem wp_ex : Wp (some (.ex x e h)) N Rt X = X x e h := wp_iff
theorem wp_no : ¬ Wp none N Rt X := fun h => h.of
theorem wp_then {o : Option Fl} {k : Env → Sto → Option Fl} : Wp (thenF o k) N Rt X = Wp o (fun e h => Wp (k e h) N Rt X) Rt X := by
  cases o with
  | none => exact propext ⟨fun h => (wp_no h).elim, fun h => (wp_no h).elim⟩
  | some o => cases o with
    | nx e h => rw [thenF_nx, wp_nx]
    | rt r h => rw [thenF_rt, wp_rt, wp_rt]
    | ex x e h => rw [thenF_ex, wp_ex, wp_ex]
theorem Wp.mono {o : Option Fl} (w : Wp o N Rt X) (h1 : ∀ e h, N e h → N' e h) (h2 : ∀ r h, Rt r h → Rt' r h) : Wp o N' Rt' X := by
  obtain ⟨w⟩ := w
  constructor
  cases o with
  | none => exact w
  | some o => cases o with
    | nx _ _ => exact h1 _ _ w
    | rt _ _ => exact h2 _ _ w
    | ex _ _ _ => exact w
theorem wp_congr {o o' : Option Fl} (q : o = o') : Wp o N Rt X = Wp o' N Rt X := by rw [q]
/-- a target takes its value -/
def WpB (o : Option Env) (K : Env → Prop) : Prop := match o with
  | some e => K e
  | none => False
@[simp] theorem wpB_some {K : Env → Prop} : WpB (some e) K = K e := rfl
theorem wp_for {t : T} {b : Env → Sto → Option Fl} {all : List D} (I : Nat → Env → Sto → Prop) : ∀ {ds : List D} {i : Nat} {e : Env} {h : Sto}, I i e h →
    (∀ j d, ds[j]? = some d → ∀ e h, I (i + j) e h → WpB (bindT t d e h) fun e1 => Wp (b e1 h) (I (i + j + 1)) Rt X) → (∀ e h, I (i + ds.length) e h → N e h) → Wp (forL none all t b ds e h) N Rt X
  | [], i, e, h, hi, _, hn => by
    rw [forL, if_pos (show srcOk none _ _ from trivial)]
    rw [wp_nx]
    exact hn e h hi
  | d :: r, i, e, h, hi, st, hn => by
    have z := st 0 d rfl e h hi
    rw [forL, if_pos (show srcOk none _ _ from trivial)]
    cases q : bindT t d e h with
    | none => rw [q] at z; exact z.elim
    | some e1 =>
      rw [q] at z
      dsimp only
      rw [wp_then]
      refine Wp.mono (z : Wp (b e1 h) _ _ _) (fun e2 h2 q2 => ?_) fun r h q => q
      refine wp_for I (ds := r) (i := i + 1) q2 (fun j y hy e h hI => ?_) fun e h q => ?_
      · have z := st (j + 1) y (by simpa using hy) e h (by rw [show i + (j + 1) = i + 1 + j from by omega]; exact hI)
        rw [show i + (j + 1) + 1 = i + 1 + j + 1 from by omega] at z
        exact z
      · exact hn e h (by rw [List.length_cons, show i + (r.length + 1) = i + 1 + r.length from by omega]; exact q)
/-- over range(n) -/
theorem wp_range {t : T} {b : Env → Sto → Option Fl} {all : List D} {n : Nat} {f : Nat → D} (I : Nat → Env → Sto → Prop) (h0 : I 0 e h)
    (st : ∀ j, j < n → ∀ e h, I j e h → WpB (bindT t (f j) e h) fun e1 => Wp (b e1 h) (I (j + 1)) Rt X) (hn : ∀ e h, I n e h → N e h) : Wp (forL none all t b ((List.range n).map f) e h) N Rt X := by
  refine wp_for (fun i => I i) (i := 0) h0 (fun j d hd e h hI => ?_) fun e h q => hn e h (by simpa using q)
  rw [List.getElem?_map] at hd
  simp only [Option.map_eq_some_iff] at hd
  obtain ⟨y, hy, rfl⟩ := hd
  have hj : j < n := by simpa using (List.getElem?_eq_some_iff.mp hy).1
  rw [List.getElem?_range hj] at hy
  cases hy
  rw [Nat.zero_add] at hI ⊢
  exact st j hj e h hI
/-- a call's end -/
theorem fin_wp {keep : Bool} {o : Option Fl} {Q : R → Prop} (w : Wp o (fun _ h' => ∃ r, retV keep h (.d .non) h' = .ok r h ∧ Q r) (fun r h' => ∃ r', retV keep h r h' = .ok r' h ∧ Q r') fun _ _ _ => False) : ∃ r, fin keep h o = some (.ok r h) ∧ Q r := by
  rw [wp_iff] at w
  cases o with
  | none => exact w.elim
  | some o => cases o with
    | nx e h' => obtain ⟨r, q1, q2⟩ := w; exact ⟨r, by rw [fin_nx, q1], q2⟩
    | rt r h' => obtain ⟨r, q1, q2⟩ := w; exact ⟨r, by rw [fin_rt, q1], q2⟩
    | ex x e h' => exact w.elim
theorem ret_new {xs : List D} {Q : R → Prop} (hr : lows h.length xs = true) (q : Q (.tl xs)) : ∃ r, retV false h (.d (.ref h.length)) (h ++ [.lst xs]) = .ok r h ∧ Q r := ⟨_, retV_new0 hr, q⟩
theorem ret_app {g : Sto} {r : R} {Q : R → Prop} (hr : r.low h.length = true) (q : Q r) : ∃ r', retV false h r (h ++ g) = .ok r' h ∧ Q r' := ⟨_, retV_app hr, q⟩
theorem ret_self {keep : Bool} {r : R} {Q : R → Prop} (hr : r.low h.length = true) (q : Q r) : ∃ r', retV keep h r h = .ok r' h ∧ Q r' := ⟨_, retV_self hr, q⟩
end
theorem mul_list {h : Sto} {a : List D} {j : Int} (h1 : a.length * j.toNat ≤ 1000) (h2 : -(2 ^ 63) ≤ j ∧ j < 2 ^ 63) : binv .mul h (.lst a) (.int j) = some (.tl (List.replicate j.toNat a).flatten) :=
  if_pos ⟨Nat.le_trans h1 (by decide), h2.1, h2.2⟩
theorem rng1 {n : Nat} {h : Sto} {i : Int} (hi : i = n) (hn : n ≤ 1000000) : rngI1 (.int i) h = some (.ok ((List.range n).map fun (k : Nat) => .int (k : Int)) none h) := by
  subst hi
  rw [rngI1, if_pos (show rng1Ok _ from ⟨by omega, by omega⟩)]
  rfl
/-! ### an object somewhere in the store -/
section
variable {H : Sto} {r : Nat} {st : List D}
theorem items_at (q : H[r]? = some (.lst st)) : items H (.ref r) = some st := by simp [items, q]
theorem len_at (q : H[r]? = some (.lst st)) : b1v .len H (.ref r) = some (.d (.int st.length)) := by simp [b1v, items, q]
theorem eq_nil_at (q : H[r]? = some (.lst st)) : cmpv .eq H (.ref r) (.lst []) = some st.isEmpty := by simp [cmpv, eqvS, items, q]
theorem ne_nil_at (q : H[r]? = some (.lst st)) : cmpv .ne H (.ref r) (.lst []) = some (!st.isEmpty) := by simp [cmpv, eqvS, items, q]
theorem slv_at {l u : Option Int} (q : H[r]? = some (.lst st)) : slv H (.ref r) l u = some (.tl (cutD st l u)) := by simp [slv, items, q]
theorem ix_at {i : Int} (q : H[r]? = some (.lst st)) : ixv H (.ref r) (.int i) = (L2.atI st i).map .d := by simp [ixv, items, q]
theorem recv_app_at (q : H[r]? = some (.lst st)) : recvOk .append H (.ref r) = true := by simp [recvOk, items, q]
theorem recv_pop_at (q : H[r]? = some (.lst st)) : recvOk .pop H (.ref r) = true := by simp [recvOk, items, q]
theorem recv_ext_at (q : H[r]? = some (.lst st)) : recvOk .extend H (.ref r) = true := by simp [recvOk, items, q]
theorem app_at {x : D} (q : H[r]? = some (.lst st)) (hl : st.length < sizeLine) : metv .append H (.ref r) [x] = some (.d .non, H.set r (.lst (st ++ [x]))) := by simp [metv, q, hl]
theorem set_at {o o' : Ob} (q : H[r]? = some o') : (H.set r o)[r]? = some o := List.getElem?_set_self (List.getElem?_eq_some_iff.mp q).1
theorem get_app {h g : Sto} (hr : h.length ≤ r) (q : (h ++ g)[r]? = some (.lst st)) : g[r - h.length]? = some (.lst st) := by rwa [List.getElem?_append_right hr] at q
theorem set_app {h g : Sto} {o : Ob} (hr : h.length ≤ r) : (h ++ g).set r o = h ++ g.set (r - h.length) o := List.set_append_right _ _ hr
theorem ret_at {h g : Sto} {Q : R → Prop} (hr : h.length ≤ r) (q : (h ++ g)[r]? = some (.lst st)) (hl : lows h.length st = true) (z : Q (.tl st)) : ∃ r', retV false h (.d (.ref r)) (h ++ g) = .ok r' h ∧ Q r' := by
  have e : r = h.length + (r - h.length) := by omega
  refine ⟨.tl st, ?_, z⟩
  rw [e]
  exact retV_new (get_app hr q) hl
theorem rng2 {a b : Int} {n : Nat} {h : Sto} (hn : (b - a).toNat = n) (ha : -(2 ^ 62) ≤ a ∧ a < 2 ^ 62) (hb : -(2 ^ 62) ≤ b ∧ b < 2 ^ 62) : rngI2 (.int a) (.int b) h = some (.ok ((List.range n).map fun (k : Nat) => .int (a + k)) none h) := by
  subst hn
  rw [rngI2, if_pos (show rng2Ok _ _ from ⟨ha.1, ha.2, hb.1, hb.2⟩)]
end
end Tc

/-! k34: the program in Tc's terms. -/
namespace Tc.K34
open PySem L2
def top (i : Nat) : Stmt := PySem.Challenge.pw_threadchart_k34_formulas.main.body.getD i (.Pass ⟨0, 0, 0, 0⟩)
/-- is_whole [thing] -/
def b_is_whole : S := (.cons (.ret (.and (.isi (.var 0) [.int]) (.not (.isi (.var 0) [.bool]))))
  .nil)
def p_is_whole : Pr := ⟨"is_whole", "is_whole", "is_whole", top 1, ["thing"], ["thing"], [], ⟨1, 1, b_is_whole, false⟩⟩
/-- divisor [one, other] -/
def b_divisor : S := (.cons (.whl (.cmp .ne (.var 1) (.lit (.int (0)))) (.cons (.par 0 1 (.var 1) (.bin .mod (.var 0) (.var 1)))
  .nil))
  (.cons (.ret (.b1 .abs (.var 0)))
  .nil))
def p_divisor : Pr := ⟨"divisor", "divisor", "divisor", top 2, ["one", "other"], ["one", "other"], [], ⟨2, 2, b_divisor, false⟩⟩
/-- is_fraction [thing] -/
def b_is_fraction : S := (.cons (.ifs (.or (.not (.isi (.var 0) [.tuple])) (.or (.cmp .ne (.b1 .len (.var 0)) (.lit (.int (2)))) (.or (.not (.call "is_whole" (.acons (.ix (.var 0) (.lit (.int (0)))) .anil))) (.not (.call "is_whole" (.acons (.ix (.var 0) (.lit (.int (1)))) .anil)))))) (.cons (.ret (.lit (.bl false)))
  .nil) .nil)
  (.cons (.ret (.and (.cmp .gt (.ix (.var 0) (.lit (.int (1)))) (.lit (.int (0)))) (.cmp .eq (.call "divisor" (.acons (.ix (.var 0) (.lit (.int (0)))) (.acons (.ix (.var 0) (.lit (.int (1)))) .anil))) (.lit (.int (1))))))
  .nil))
def p_is_fraction : Pr := ⟨"is_fraction", "is_fraction", "is_fraction", top 3, ["thing"], ["thing"], [], ⟨1, 1, b_is_fraction, false⟩⟩
/-- is_name [thing, .0, sign] -/
def b_is_name : S := (.cons (.ifs (.or (.not (.isi (.var 0) [.str])) (.or (.cmp .lt (.b1 .len (.var 0)) (.lit (.int (1)))) (.cmp .gt (.b1 .len (.var 0)) (.lit (.int (8)))))) (.cons (.ret (.lit (.bl false)))
  .nil) .nil)
  (.cons (.ret (.b1 .all (.lc [1, 2] (.v 2) (.iseq (.var 0)) (.cmp .mem (.var 2) (.glob "LETTERS")))))
  .nil))
def p_is_name : Pr := ⟨"is_name", "is_name", "is_name", top 8, ["thing", ".0", "sign"], ["thing"], [], ⟨1, 3, b_is_name, false⟩⟩
/-- is_leaf [thing] -/
def b_is_leaf : S := (.cons (.ifs (.cmp .ne (.b1 .len (.var 0)) (.lit (.int (2)))) (.cons (.ret (.lit (.bl false)))
  .nil) .nil)
  (.cons (.ret (.or (.and (.cmp .eq (.ix (.var 0) (.lit (.int (0)))) (.lit (.str "name"))) (.call "is_name" (.acons (.ix (.var 0) (.lit (.int (1)))) .anil))) (.and (.cmp .eq (.ix (.var 0) (.lit (.int (0)))) (.lit (.str "number"))) (.call "is_fraction" (.acons (.ix (.var 0) (.lit (.int (1)))) .anil)))))
  .nil))
def p_is_leaf : Pr := ⟨"is_leaf", "is_leaf", "is_leaf", top 9, ["thing"], ["thing"], [], ⟨1, 1, b_is_leaf, false⟩⟩
/-- sides_of [thing] -/
def b_sides_of : S := (.cons (.ifs (.or (.not (.isi (.var 0) [.tuple])) (.or (.cmp .lt (.b1 .len (.var 0)) (.lit (.int (2)))) (.not (.isi (.ix (.var 0) (.lit (.int (0)))) [.str])))) (.cons (.ret (.lit .non))
  .nil) .nil)
  (.cons (.ifs (.and (.cmp .eq (.b1 .len (.var 0)) (.lit (.int (3)))) (.cmp .mem (.ix (.var 0) (.lit (.int (0)))) (.glob "WORDS"))) (.cons (.ret (.lst (.acons (.ix (.var 0) (.lit (.int (1)))) (.acons (.ix (.var 0) (.lit (.int (2)))) .anil))))
  .nil) .nil)
  (.cons (.ifs (.call "is_leaf" (.acons (.var 0) .anil)) (.cons (.ret (.lst .anil))
  .nil) .nil)
  (.cons (.ret (.lit .non))
  .nil))))
def p_sides_of : Pr := ⟨"sides_of", "sides_of", "sides_of", top 10, ["thing"], ["thing"], [], ⟨1, 1, b_sides_of, false⟩⟩
/-- is_formula [thing, ahead, many, sides] -/
def b_is_formula : S := (.cons (.set (.m 1) (.lst (.acons (.var 0) .anil)))
  (.cons (.set (.v 2) (.lit (.int (0))))
  (.cons (.whl (.cmp .ne (.var 1) (.lst .anil)) (.cons (.set (.v 3) (.call "sides_of" (.acons (.met .pop (.var 1) .anil) .anil)))
  (.cons (.aug 2 .add (.lit (.int (1))))
  (.cons (.ifs (.or (.cmp .is (.var 3) (.lit .non)) (.cmp .gt (.var 2) (.glob "MOST_PARTS"))) (.cons (.ret (.lit (.bl false)))
  .nil) .nil)
  (.cons (.expr (.met .extend (.var 1) (.acons (.var 3) .anil)))
  .nil)))))
  (.cons (.ret (.lit (.bl true)))
  .nil))))
def p_is_formula : Pr := ⟨"is_formula", "is_formula", "is_formula", top 11, ["thing", "ahead", "many", "sides"], ["thing"], ["ahead"], ⟨1, 4, b_is_formula, false⟩⟩
/-- _law_cell_at [_law_script, _law_k] -/
def b__law_cell_at : S := (.cons (.ifs (.cmp .lt (.var 1) (.b1 .len (.var 0))) (.cons (.ret (.ix (.var 0) (.var 1)))
  .nil) .nil)
  (.cons (.ret (.lit (.int (0))))
  .nil))
def p__law_cell_at : Pr := ⟨"_law_cell_at", "_law_cell_at", "_law_cell_at", top 13, ["_law_script", "_law_k"], ["_law_script", "_law_k"], [], ⟨2, 2, b__law_cell_at, false⟩⟩
/-- _law_draw [_law_script, _law_k, _law_cell, _law_number] -/
def b__law_draw : S := (.cons (.set (.v 2) (.call "_law_cell_at" (.acons (.var 0) (.acons (.var 1) .anil))))
  (.cons (.ifs (.cmp .eq (.bin .mod (.call "_law_cell_at" (.acons (.var 0) (.acons (.lit (.int (0))) .anil))) (.lit (.int (2)))) (.lit (.int (0)))) (.cons (.ret (.b2 .max (.var 2) (.bin .sub (.lit (.int (-1))) (.var 2))))
  .nil) .nil)
  (.cons (.set (.v 3) (.bin .add (.bin .mod (.bin .add (.bin .add (.bin .mul (.var 2) (.lit (.int (69621)))) (.bin .mul (.lit (.int (7))) (.var 1))) (.lit (.int (1)))) (.lit (.int (2147483629)))) (.bin .mul (.lit (.int (2147483629))) (.bin .mod (.var 2) (.bin .pow (.lit (.int (10))) (.lit (.int (30))))))))
  (.cons (.ret (.bin .mod (.bin .add (.bin .mul (.var 3) (.lit (.int (48271)))) (.var 1)) (.bin .add (.bin .pow (.lit (.int (10))) (.lit (.int (30)))) (.lit (.int (57))))))
  .nil))))
def p__law_draw : Pr := ⟨"_law_draw", "_law_draw", "_law_draw", top 14, ["_law_script", "_law_k", "_law_cell", "_law_number"], ["_law_script", "_law_k"], [], ⟨2, 4, b__law_draw, false⟩⟩
/-- _law_lowest [_law_top, _law_bottom, _law_one, _law_other] -/
def b__law_lowest : S := (.cons (.set (.v 2) (.b1 .abs (.var 0)))
  (.cons (.set (.v 3) (.b1 .abs (.var 1)))
  (.cons (.whl (.cmp .gt (.var 3) (.lit (.int (0)))) (.cons (.par 2 3 (.var 3) (.bin .mod (.var 2) (.var 3)))
  .nil))
  (.cons (.ifs (.cmp .lt (.var 1) (.lit (.int (0)))) (.cons (.set (.v 2) (.bin .sub (.lit (.int (0))) (.var 2)))
  .nil) .nil)
  (.cons (.ret (.tup (.acons (.bin .fdiv (.var 0) (.var 2)) (.acons (.bin .fdiv (.var 1) (.var 2)) .anil))))
  .nil)))))
def p__law_lowest : Pr := ⟨"_law_lowest", "_law_lowest", "_law_lowest", top 15, ["_law_top", "_law_bottom", "_law_one", "_law_other"], ["_law_top", "_law_bottom"], [], ⟨2, 4, b__law_lowest, false⟩⟩
/-- _law_names [_law_number, _law_letters, _law_size, _law_at, _law_names_here, _law_k, _law_j, _law_place] -/
def b__law_names : S := (.cons (.set (.v 1) (.lit (.str "abcdefghijklmnopqrstuvwxyz")))
  (.cons (.set (.v 2) (.bin .add (.lit (.int (1))) (.bin .mod (.var 0) (.lit (.int (8))))))
  (.cons (.set (.v 3) (.bin .mod (.bin .mod (.bin .fdiv (.var 0) (.lit (.int (8)))) (.lit (.int (8)))) (.var 2)))
  (.cons (.set (.v 0) (.bin .fdiv (.var 0) (.lit (.int (64)))))
  (.cons (.set (.m 4) (.bin .mul (.lst (.acons (.lit (.str "")) .anil)) (.lit (.int (4)))))
  (.cons (.fr (.v 5) (.irng1 (.var 2)) (.cons (.fr (.v 6) (.irng1 (.lit (.int (4)))) (.cons (.set (.v 7) (.bin .mod (.bin .add (.var 0) (.bin .mul (.var 6) (.b1 .int (.cmp .eq (.var 5) (.var 3))))) (.lit (.int (26)))))
  (.cons (.setix (.var 4) (.var 6) (.bin .add (.ix (.var 4) (.var 6)) (.ix (.var 1) (.var 7))))
  .nil)))
  (.cons (.set (.v 0) (.bin .fdiv (.var 0) (.lit (.int (26)))))
  .nil)))
  (.cons (.ret (.var 4))
  .nil)))))))
def p__law_names : Pr := ⟨"_law_names", "_law_names", "_law_names", top 16, ["_law_number", "_law_letters", "_law_size", "_law_at", "_law_names_here", "_law_k", "_law_j", "_law_place"], ["_law_number"], ["_law_names_here"], ⟨1, 8, b__law_names, false⟩⟩
/-- _law_leaf [_law_number, _law_names_here, _law_way, _law_top] -/
def b__law_leaf : S := (.cons (.set (.v 2) (.bin .mod (.var 0) (.lit (.int (5)))))
  (.cons (.set (.v 0) (.bin .fdiv (.var 0) (.lit (.int (5)))))
  (.cons (.ifs (.cmp .lt (.var 2) (.lit (.int (3)))) (.cons (.ret (.tup (.acons (.lit (.str "name")) (.acons (.ix (.var 1) (.bin .mod (.var 0) (.lit (.int (4))))) .anil))))
  .nil) .nil)
  (.cons (.ifs (.cmp .eq (.var 2) (.lit (.int (3)))) (.cons (.ret (.tup (.acons (.lit (.str "number")) (.acons (.call "_law_lowest" (.acons (.bin .sub (.bin .mod (.var 0) (.lit (.int (7)))) (.lit (.int (3)))) (.acons (.bin .add (.lit (.int (1))) (.bin .mod (.bin .fdiv (.var 0) (.lit (.int (7)))) (.lit (.int (3))))) .anil))) .anil))))
  .nil) .nil)
  (.cons (.set (.v 3) (.bin .add (.bin .sub (.bin .mod (.var 0) (.bin .sub (.bin .mul (.lit (.int (2))) (.bin .pow (.lit (.int (10))) (.lit (.int (12))))) (.lit (.int (1))))) (.bin .pow (.lit (.int (10))) (.lit (.int (12))))) (.lit (.int (1)))))
  (.cons (.ret (.tup (.acons (.lit (.str "number")) (.acons (.call "_law_lowest" (.acons (.var 3) (.acons (.bin .add (.lit (.int (1))) (.bin .mod (.bin .fdiv (.var 0) (.bin .sub (.bin .mul (.lit (.int (2))) (.bin .pow (.lit (.int (10))) (.lit (.int (12))))) (.lit (.int (1))))) (.bin .sub (.bin .pow (.lit (.int (10))) (.lit (.int (12)))) (.lit (.int (1)))))) .anil))) .anil))))
  .nil))))))
def p__law_leaf : Pr := ⟨"_law_leaf", "_law_leaf", "_law_leaf", top 17, ["_law_number", "_law_names_here", "_law_way", "_law_top"], ["_law_number", "_law_names_here"], [], ⟨2, 4, b__law_leaf, false⟩⟩
/-- _law_grown [_law_script, _law_first, _law_last, _law_names_here, _law_stack, _law_k, _law_number, _law_word, _law_one, _law_other, _law_many] -/
def b__law_grown : S := (.cons (.set (.m 4) (.lst .anil))
  (.cons (.fr (.v 5) (.irng2 (.var 1) (.b2 .min (.var 2) (.b1 .len (.var 0)))) (.cons (.set (.v 6) (.call "_law_draw" (.acons (.var 0) (.acons (.var 5) .anil))))
  (.cons (.ifs (.or (.cmp .eq (.bin .mod (.var 6) (.lit (.int (3)))) (.lit (.int (0)))) (.cmp .lt (.b1 .len (.var 4)) (.lit (.int (2))))) (.cons (.expr (.met .append (.var 4) (.acons (.tup (.acons (.call "_law_leaf" (.acons (.bin .fdiv (.var 6) (.lit (.int (3)))) (.acons (.var 3) .anil))) (.acons (.lit (.int (1))) .anil))) .anil)))
  .nil) (.cons (.set (.v 7) (.ix (.lst (.acons (.lit (.str "plus")) (.acons (.lit (.str "minus")) (.acons (.lit (.str "times")) (.acons (.lit (.str "over")) .anil))))) (.bin .mod (.bin .fdiv (.var 6) (.lit (.int (3)))) (.lit (.int (4))))))
  (.cons (.set (.tp (.cons (.v 8) (.cons (.v 9) .nil))) (.slf (.var 4) (.lit (.int (-2)))))
  (.cons (.ifs (.cmp .eq (.bin .mod (.bin .fdiv (.var 6) (.lit (.int (12)))) (.lit (.int (2)))) (.lit (.int (1)))) (.cons (.par 8 9 (.var 9) (.var 8))
  .nil) .nil)
  (.cons (.set (.v 10) (.bin .add (.bin .add (.lit (.int (1))) (.ix (.var 8) (.lit (.int (1))))) (.ix (.var 9) (.lit (.int (1))))))
  (.cons (.ifs (.cmp .lt (.var 10) (.lit (.int (61)))) (.cons (.set (.m 4) (.bin .add (.slt (.var 4) (.lit (.int (-2)))) (.lst (.acons (.tup (.acons (.tup (.acons (.var 7) (.acons (.ix (.var 8) (.lit (.int (0)))) (.acons (.ix (.var 9) (.lit (.int (0)))) .anil)))) (.acons (.var 10) .anil))) .anil))))
  .nil) .nil)
  .nil))))))
  .nil)))
  (.cons (.ifs (.cmp .eq (.var 4) (.lst .anil)) (.cons (.set (.m 4) (.lst (.acons (.tup (.acons (.tup (.acons (.lit (.str "name")) (.acons (.ix (.var 3) (.lit (.int (0)))) .anil))) (.acons (.lit (.int (1))) .anil))) .anil)))
  .nil) .nil)
  (.cons (.ret (.var 4))
  .nil))))
def p__law_grown : Pr := ⟨"_law_grown", "_law_grown", "_law_grown", top 18, ["_law_script", "_law_first", "_law_last", "_law_names_here", "_law_stack", "_law_k", "_law_number", "_law_word", "_law_one", "_law_other", "_law_many"], ["_law_script", "_law_first", "_law_last", "_law_names_here"], ["_law_stack"], ⟨4, 11, b__law_grown, false⟩⟩
/-- _law_odd [_law_number, _law_formula, _law_some, _law_signs, _law_sign] -/
def b__law_odd : S := (.cons (.set (.v 2) (.lst (.acons (.lit .non) (.acons (.lit (.bl true)) (.acons (.lit (.int (3))) (.acons (.lit (.str "a")) (.acons (.lit (.str "name")) (.acons (.tup (.acons (.lit (.str "name")) .anil)) (.acons (.tup (.acons (.lit (.str "name")) (.acons (.lit (.str "A")) .anil))) (.acons (.tup (.acons (.lit (.str "name")) (.acons (.lit (.str "")) .anil))) (.acons (.tup (.acons (.lit (.str "name")) (.acons (.lit (.str "abcdefghi")) .anil))) .anil)))))))))))
  (.cons (.set (.v 2) (.bin .add (.var 2) (.lst (.acons (.tup (.acons (.lit (.str "name")) (.acons (.lit (.int (3))) .anil))) (.acons (.tup (.acons (.lit (.str "name")) (.acons (.lit (.str "a")) (.acons (.lit (.str "b")) .anil)))) (.acons (.tup (.acons (.lit (.str "names")) (.acons (.lit (.str "a")) .anil))) (.acons (.tup (.acons (.lit (.str "number")) (.acons (.lit (.int (3))) .anil))) (.acons (.tup (.acons (.lit (.str "number")) (.acons (.tup (.acons (.lit (.int (2))) (.acons (.lit (.int (4))) .anil))) .anil))) .anil))))))))
  (.cons (.set (.v 2) (.bin .add (.var 2) (.lst (.acons (.tup (.acons (.lit (.str "number")) (.acons (.tup (.acons (.lit (.int (1))) (.acons (.lit (.int (0))) .anil))) .anil))) (.acons (.tup (.acons (.lit (.str "number")) .anil)) (.acons (.tup (.acons (.lit (.str "number")) (.acons (.tup (.acons (.lit (.int (1))) (.acons (.lit (.int (-2))) .anil))) .anil))) (.acons (.tup (.acons (.lit (.str "number")) (.acons (.tup (.acons (.lit (.bl true)) (.acons (.lit (.int (2))) .anil))) .anil))) .anil)))))))
  (.cons (.set (.v 2) (.bin .add (.var 2) (.lst (.acons (.tup (.acons (.lit (.str "number")) (.acons (.lst (.acons (.lit (.int (1))) (.acons (.lit (.int (2))) .anil))) .anil))) (.acons (.tup (.acons (.lit (.str "number")) (.acons (.tup (.acons (.lit (.int (0))) (.acons (.lit (.int (2))) .anil))) .anil))) (.acons (.tup .anil) (.acons (.tup (.acons (.tup (.acons (.lit (.str "name")) (.acons (.lit (.str "a")) .anil))) .anil)) (.acons (.tup (.acons (.lit (.str "number")) (.acons (.tup (.acons (.lit (.int (1))) (.acons (.lit (.int (2))) (.acons (.lit (.int (3))) .anil)))) .anil))) .anil))))))))
  (.cons (.set (.v 2) (.bin .add (.var 2) (.lst (.acons (.tup (.acons (.lit (.str "plus")) .anil)) (.acons (.tup (.acons (.lit (.str "plus")) (.acons (.tup (.acons (.lit (.str "name")) (.acons (.lit (.str "a")) .anil))) .anil))) (.acons (.lst (.acons (.lit (.str "name")) (.acons (.lit (.str "a")) .anil))) (.acons (.tup (.acons (.lit (.str "plus")) (.acons (.lit (.str "a")) (.acons (.lit (.str "b")) .anil)))) (.acons (.lst (.acons (.var 1) .anil)) .anil))))))))
  (.cons (.set (.v 2) (.bin .add (.var 2) (.lst (.acons (.tup (.acons (.lit (.str "sum")) (.acons (.var 1) (.acons (.var 1) .anil)))) (.acons (.tup (.acons (.lit (.str "plus")) (.acons (.var 1) (.acons (.lit .non) .anil)))) (.acons (.tup (.acons (.lit (.str "over")) (.acons (.var 1) (.acons (.var 1) (.acons (.var 1) .anil))))) .anil))))))
  (.cons (.set (.v 2) (.bin .add (.var 2) (.lst (.acons (.dct ["name"] (.acons (.lit (.str "a")) .anil)) (.acons (.tup (.acons (.lit (.str "name")) (.acons (.lit (.str "a1")) .anil))) (.acons (.tup (.acons (.lit (.str "name")) (.acons (.lit (.str "a b")) .anil))) (.acons (.tup (.acons (.lit (.int (3))) (.acons (.var 1) (.acons (.var 1) .anil)))) .anil)))))))
  (.cons (.set (.v 2) (.bin .add (.var 2) (.lst (.acons (.tup (.acons (.lit (.str "times")) (.acons (.var 1) .anil))) (.acons (.tup (.acons (.lit (.str "name")) (.acons (.lst (.acons (.lit (.str "a")) .anil)) .anil))) (.acons (.tup (.acons (.lit (.str "a")) .anil)) (.acons (.tup (.acons (.lst (.acons (.lit (.str "plus")) .anil)) (.acons (.var 1) (.acons (.var 1) .anil)))) (.acons (.tup (.acons (.lst (.acons (.lit (.str "name")) .anil)) (.acons (.lit (.str "a")) .anil))) .anil))))))))
  (.cons (.set (.v 2) (.bin .add (.var 2) (.lst (.acons (.tup (.acons (.dct [] .anil) (.acons (.var 1) (.acons (.var 1) .anil)))) (.acons (.tup (.acons (.tup (.acons (.lit (.str "plus")) .anil)) (.acons (.var 1) (.acons (.var 1) .anil)))) .anil)))))
  (.cons (.ifs (.cmp .eq (.bin .mod (.bin .fdiv (.var 0) (.lit (.int (41)))) (.lit (.int (3)))) (.lit (.int (1)))) (.cons (.set (.v 3) (.lit (.str " !\"#$&'()*+,-./0123456789:;<=>?@ABCDEFGHIJKLMNOPQRSTUVWXYZ[\\]^_`{|}~\n\t")))
  (.cons (.set (.v 4) (.ix (.var 3) (.bin .mod (.bin .fdiv (.var 0) (.lit (.int (123)))) (.lit (.int (70))))))
  (.cons (.ret (.tup (.acons (.lit (.str "name")) (.acons (.ix (.lst (.acons (.bin .add (.lit (.str "a")) (.var 4)) (.acons (.bin .add (.var 4) (.lit (.str "b"))) (.acons (.bin .add (.bin .add (.lit (.str "c")) (.var 4)) (.lit (.str "d"))) (.acons (.var 4) .anil))))) (.bin .mod (.bin .fdiv (.var 0) (.lit (.int (8610)))) (.lit (.int (4))))) .anil))))
  .nil))) .nil)
  (.cons (.ret (.ix (.var 2) (.bin .mod (.var 0) (.b1 .len (.var 2)))))
  .nil)))))))))))
def p__law_odd : Pr := ⟨"_law_odd", "_law_odd", "_law_odd", top 19, ["_law_number", "_law_formula", "_law_some", "_law_signs", "_law_sign"], ["_law_number", "_law_formula"], [], ⟨2, 5, b__law_odd, false⟩⟩
/-- _law_spoiled [_law_formula, _law_number, _law_side, _law_inner] -/
def b__law_spoiled : S := (.cons (.ifs (.and (.cmp .nmem (.ix (.var 0) (.lit (.int (0)))) (.tup (.acons (.lit (.str "name")) (.acons (.lit (.str "number")) .anil)))) (.cmp .gt (.bin .mod (.var 1) (.lit (.int (4)))) (.lit (.int (0))))) (.cons (.set (.v 2) (.bin .add (.lit (.int (1))) (.bin .mod (.bin .fdiv (.var 1) (.lit (.int (4)))) (.lit (.int (2))))))
  (.cons (.set (.v 3) (.call "_law_spoiled" (.acons (.ix (.var 0) (.var 2)) (.acons (.bin .fdiv (.var 1) (.lit (.int (8)))) .anil))))
  (.cons (.ifs (.cmp .eq (.var 2) (.lit (.int (1)))) (.cons (.ret (.tup (.acons (.ix (.var 0) (.lit (.int (0)))) (.acons (.var 3) (.acons (.ix (.var 0) (.lit (.int (2)))) .anil)))))
  .nil) .nil)
  (.cons (.ret (.tup (.acons (.ix (.var 0) (.lit (.int (0)))) (.acons (.ix (.var 0) (.lit (.int (1)))) (.acons (.var 3) .anil)))))
  .nil)))) .nil)
  (.cons (.ret (.call "_law_odd" (.acons (.bin .fdiv (.var 1) (.lit (.int (4)))) (.acons (.var 0) .anil))))
  .nil))
def p__law_spoiled : Pr := ⟨"_law_spoiled", "_law_spoiled", "_law_spoiled", top 20, ["_law_formula", "_law_number", "_law_side", "_law_inner"], ["_law_formula", "_law_number"], [], ⟨2, 4, b__law_spoiled, false⟩⟩
/-- _law_row [_law_many, _law_deep, _law_found, _law_k] -/
def b__law_row : S := (.cons (.set (.v 2) (.tup (.acons (.lit (.str "name")) (.acons (.lit (.str "a")) .anil))))
  (.cons (.fr (.v 3) (.irng1 (.var 0)) (.cons (.ifs (.or (.cmp .eq (.bin .mod (.var 3) (.lit (.int (2)))) (.lit (.int (0)))) (.var 1)) (.cons (.set (.v 2) (.tup (.acons (.lit (.str "plus")) (.acons (.var 2) (.acons (.tup (.acons (.lit (.str "name")) (.acons (.lit (.str "b")) .anil))) .anil)))))
  .nil) (.cons (.set (.v 2) (.tup (.acons (.lit (.str "over")) (.acons (.tup (.acons (.lit (.str "number")) (.acons (.tup (.acons (.lit (.int (1))) (.acons (.lit (.int (2))) .anil))) .anil))) (.acons (.var 2) .anil)))))
  .nil))
  .nil))
  (.cons (.ret (.var 2))
  .nil)))
def p__law_row : Pr := ⟨"_law_row", "_law_row", "_law_row", top 21, ["_law_many", "_law_deep", "_law_found", "_law_k"], ["_law_many", "_law_deep"], [], ⟨2, 4, b__law_row, false⟩⟩
/-- law [_law_script, _law_names_here, _law_k, _law_formula, _law_many, _law_half, _law_more] -/
def b_law : S := (.cons (.set (.v 1) (.call "_law_names" (.acons (.call "_law_draw" (.acons (.var 0) (.acons (.lit (.int (1))) .anil))) .anil)))
  (.cons (.fr (.v 2) (.irng3 (.lit (.int (2))) (.b2 .max (.lit (.int (3))) (.b2 .min (.b1 .len (.var 0)) (.lit (.int (63))))) (.lit (.int (9)))) (.cons (.fr (.tp (.cons (.v 3) (.cons (.v 4) .nil))) (.iseq (.call "_law_grown" (.acons (.var 0) (.acons (.var 2) (.acons (.bin .add (.var 2) (.lit (.int (30)))) (.acons (.var 1) .anil)))))) (.cons (.ifs (.cmp .isnt (.call "is_formula" (.acons (.var 3) .anil)) (.lit (.bl true))) (.cons (.ret (.lit (.bl false)))
  .nil) .nil)
  (.cons (.ifs (.cmp .isnt (.call "is_formula" (.acons (.call "_law_spoiled" (.acons (.var 3) (.acons (.bin .fdiv (.call "_law_draw" (.acons (.var 0) (.acons (.var 2) .anil))) (.lit (.int (7)))) .anil))) .anil)) (.lit (.bl false))) (.cons (.ret (.lit (.bl false)))
  .nil) .nil)
  .nil)))
  .nil))
  (.cons (.ifs (.or (.cmp .isnt (.call "is_formula" (.acons (.call "_law_row" (.acons (.lit (.int (29))) (.acons (.lit (.bl false)) .anil))) .anil)) (.lit (.bl true))) (.cmp .isnt (.call "is_formula" (.acons (.call "_law_row" (.acons (.lit (.int (30))) (.acons (.lit (.bl false)) .anil))) .anil)) (.lit (.bl false)))) (.cons (.ret (.lit (.bl false)))
  .nil) .nil)
  (.cons (.par 5 6 (.call "_law_row" (.acons (.lit (.int (14))) (.acons (.lit (.bl false)) .anil))) (.call "_law_row" (.acons (.lit (.int (15))) (.acons (.lit (.bl false)) .anil))))
  (.cons (.ifs (.or (.cmp .isnt (.call "is_formula" (.acons (.tup (.acons (.lit (.str "times")) (.acons (.var 5) (.acons (.var 5) .anil)))) .anil)) (.lit (.bl true))) (.cmp .isnt (.call "is_formula" (.acons (.tup (.acons (.lit (.str "times")) (.acons (.var 6) (.acons (.var 6) .anil)))) .anil)) (.lit (.bl false)))) (.cons (.ret (.lit (.bl false)))
  .nil) .nil)
  (.cons (.ifs (.or (.cmp .isnt (.call "is_formula" (.acons (.call "_law_row" (.acons (.lit (.int (29))) (.acons (.lit (.bl true)) .anil))) .anil)) (.lit (.bl true))) (.cmp .isnt (.call "is_formula" (.acons (.call "_law_row" (.acons (.lit (.int (200))) (.acons (.lit (.bl true)) .anil))) .anil)) (.lit (.bl false)))) (.cons (.ret (.lit (.bl false)))
  .nil) .nil)
  (.cons (.ret (.cmp .is (.call "is_formula" (.acons (.call "_law_row" (.acons (.lit (.int (3000))) (.acons (.lit (.bl true)) .anil))) .anil)) (.lit (.bl false))))
  .nil)))))))
def p_law : Pr := ⟨"law", "law", "law", top 22, ["_law_script", "_law_names_here", "_law_k", "_law_formula", "_law_many", "_law_half", "_law_more"], ["_law_script"], [], ⟨1, 7, b_law, false⟩⟩
def cs : List Str := ["LETTERS", "WORDS", "MOST_PARTS"]
def bl : List Str := ["isinstance", "int", "bool", "abs", "tuple", "len", "str", "all", "max", "range", "min"]
def csts : List (Str × D) := [("LETTERS", (.str "abcdefghijklmnopqrstuvwxyz")), ("WORDS", (.tup [(.str "plus"), (.str "minus"), (.str "times"), (.str "over")])), ("MOST_PARTS", (.int (60)))]
def L : List Pr := [p_is_whole, p_divisor, p_is_fraction, p_is_name, p_is_leaf, p_sides_of, p_is_formula, p__law_cell_at, p__law_draw, p__law_lowest, p__law_names, p__law_leaf, p__law_grown, p__law_odd, p__law_spoiled, p__law_row, p_law]
def P : Prog := prog L csts fun _ _ => false
theorem c_is_whole : Chk L cs bl p_is_whole := ⟨fnScope_of (by kernel_rfl), by kernel_rfl, rfl, rfl, by kernel_rfl, fun _ _ _ _ _ _ us hl => match us, hl with | [_], _ => rfl⟩
theorem c_divisor : Chk L cs bl p_divisor := ⟨fnScope_of (by kernel_rfl), by kernel_rfl, rfl, rfl, by kernel_rfl, fun _ _ _ _ _ _ us hl => match us, hl with | [_, _], _ => rfl⟩
theorem c_is_fraction : Chk L cs bl p_is_fraction := ⟨fnScope_of (by kernel_rfl), by kernel_rfl, rfl, rfl, by kernel_rfl, fun _ _ _ _ _ _ us hl => match us, hl with | [_], _ => rfl⟩
theorem c_is_name : Chk L cs bl p_is_name := ⟨fnScope_of (by kernel_rfl), by kernel_rfl, rfl, rfl, by kernel_rfl, fun _ _ _ _ _ _ us hl => match us, hl with | [_], _ => rfl⟩
theorem c_is_leaf : Chk L cs bl p_is_leaf := ⟨fnScope_of (by kernel_rfl), by kernel_rfl, rfl, rfl, by kernel_rfl, fun _ _ _ _ _ _ us hl => match us, hl with | [_], _ => rfl⟩
theorem c_sides_of : Chk L cs bl p_sides_of := ⟨fnScope_of (by kernel_rfl), by kernel_rfl, rfl, rfl, by kernel_rfl, fun _ _ _ _ _ _ us hl => match us, hl with | [_], _ => rfl⟩
theorem c_is_formula : Chk L cs bl p_is_formula := ⟨fnScope_of (by kernel_rfl), by kernel_rfl, rfl, rfl, by kernel_rfl, fun _ _ _ _ _ _ us hl => match us, hl with | [_], _ => rfl⟩
theorem c__law_cell_at : Chk L cs bl p__law_cell_at := ⟨fnScope_of (by kernel_rfl), by kernel_rfl, rfl, rfl, by kernel_rfl, fun _ _ _ _ _ _ us hl => match us, hl with | [_, _], _ => rfl⟩
theorem c__law_draw : Chk L cs bl p__law_draw := ⟨fnScope_of (by kernel_rfl), by kernel_rfl, rfl, rfl, by kernel_rfl, fun _ _ _ _ _ _ us hl => match us, hl with | [_, _], _ => rfl⟩
theorem c__law_lowest : Chk L cs bl p__law_lowest := ⟨fnScope_of (by kernel_rfl), by kernel_rfl, rfl, rfl, by kernel_rfl, fun _ _ _ _ _ _ us hl => match us, hl with | [_, _], _ => rfl⟩
theorem c__law_names : Chk L cs bl p__law_names := ⟨fnScope_of (by kernel_rfl), by kernel_rfl, rfl, rfl, by kernel_rfl, fun _ _ _ _ _ _ us hl => match us, hl with | [_], _ => rfl⟩
theorem c__law_leaf : Chk L cs bl p__law_leaf := ⟨fnScope_of (by kernel_rfl), by kernel_rfl, rfl, rfl, by kernel_rfl, fun _ _ _ _ _ _ us hl => match us, hl with | [_, _], _ => rfl⟩
theorem c__law_grown : Chk L cs bl p__law_grown := ⟨fnScope_of (by kernel_rfl), by kernel_rfl, rfl, rfl, by kernel_rfl, fun _ _ _ _ _ _ us hl => match us, hl with | [_, _, _, _], _ => rfl⟩
theorem c__law_odd : Chk L cs bl p__law_odd := ⟨fnScope_of (by kernel_rfl), by kernel_rfl, rfl, rfl, by kernel_rfl, fun _ _ _ _ _ _ us hl => match us, hl with | [_, _], _ => rfl⟩
theorem c__law_spoiled : Chk L cs bl p__law_spoiled := ⟨fnScope_of (by kernel_rfl), by kernel_rfl, rfl, rfl, by kernel_rfl, fun _ _ _ _ _ _ us hl => match us, hl with | [_, _], _ => rfl⟩
theorem c__law_row : Chk L cs bl p__law_row := ⟨fnScope_of (by kernel_rfl), by kernel_rfl, rfl, rfl, by kernel_rfl, fun _ _ _ _ _ _ us hl => match us, hl with | [_, _], _ => rfl⟩
theorem c_law : Chk L cs bl p_law := ⟨fnScope_of (by kernel_rfl), by kernel_rfl, rfl, rfl, by kernel_rfl, fun _ _ _ _ _ _ us hl => match us, hl with | [_], _ => rfl⟩
theorem chk : ∀ e ∈ L, Chk L cs bl e := by
  unfold L
  simp only [List.forall_mem_cons, List.not_mem_nil, false_implies, implies_true, and_true]
  exact ⟨c_is_whole, c_divisor, c_is_fraction, c_is_name, c_is_leaf, c_sides_of, c_is_formula, c__law_cell_at, c__law_draw, c__law_lowest, c__law_names, c__law_leaf, c__law_grown, c__law_odd, c__law_spoiled, c__law_row, c_law⟩
end Tc.K34

namespace Tc.K34
open PySem L2
theorem whl_divisor (k : Nat) (h : Sto) : ∀ (n : Nat) (a b : Int), b.natAbs ≤ n → ∃ g : Int, g.natAbs = Int.gcd a b ∧
    whlC (evE (ctx P k) (.cmp .ne (.var 1) (.lit (.int 0)))) (exS (ctx P k) (.cons (.par 0 1 (.var 1) (.bin .mod (.var 0) (.var 1))) .nil)) [some (.int a), some (.int b)] h = some (.nx [some (.int g), some (.int 0)] h) := by
  intro n
  induction n with
  | zero =>
    intro a b hb
    have hb0 : b = 0 := by omega
    subst hb0
    refine ⟨a, by simp, ?_⟩
    rw [whlC_eq]
    simp
  | succ n ih =>
    intro a b hb
    by_cases h0 : b = 0
    · subst h0
      refine ⟨a, by simp, ?_⟩
      rw [whlC_eq]
      simp
    · obtain ⟨g, h1, h2⟩ := ih b (a.fmod b) (by have := fmod_lt a h0; omega)
      refine ⟨g, by rw [h1, gcd_fmod], ?_⟩
      rw [whlC_eq]
      simp [h0, bin_mod h0, h2]
theorem f_divisor (k : Nat) (h : Sto) (a b : Int) : callF P (k + 1) "divisor" [.int a, .int b] h = some (.ok (.d (.int (Int.gcd a b))) h) := by
  obtain ⟨g, h1, h2⟩ := whl_divisor k h _ a b (Nat.le_refl _)
  rw [callF_eq (d := p_divisor.d) c_divisor.lk rfl]
  simp only [p_divisor, b_divisor, env0_cons, env0_nil, env0_zero]
  simp [h2, h1]
  rw [retV_self (by simp)]
/-! ### what the tests say -/
mutual
/-- things that every test can be asked of -/
def gd : D → Bool
  | .tup xs => gds xs
  | .str x => decide (x.length ≤ sizeLine)
  | .fz _ => false
  | .exn _ _ => false
  | .ref _ => false
  | _ => true
def gds : List D → Bool
  | [] => true
  | x :: r => gd x && gds r
end
@[simp] theorem gds_nil : gds [] = true := by rw [gds]
@[simp] theorem gds_cons {x : D} {r : List D} : gds (x :: r) = (gd x && gds r) := by rw [gds]
@[simp] theorem gd_tup {xs : List D} : gd (.tup xs) = gds xs := by rw [gd]
@[simp] theorem gd_str {x : Str} : gd (.str x) = decide (x.length ≤ sizeLine) := by rw [gd]
@[simp] theorem gd_int {x : Int} : gd (.int x) = true := by simp [gd]
def LET : List Nat := (("abcdefghijklmnopqrstuvwxyz" : Str).cps).toList
def isW : D → Bool
  | .int _ => true
  | _ => false
def isFr : D → Bool
  | .tup [.int a, .int b] => decide (0 < b) && decide (Int.gcd a b = 1)
  | _ => false
def isNm : D → Bool
  | .str x => decide (1 ≤ x.length) && decide (x.length ≤ 8) && x.cps.toList.all fun c => decide (c ∈ LET)
  | _ => false
theorem f_is_whole (k : Nat) (h : Sto) {d : D} (hd : gd d = true) : callF P (k + 1) "is_whole" [d] h = some (.ok (.d (.bl (isW d))) h) := by
  rw [callF_eq (d := p_is_whole.d) c_is_whole.lk rfl]
  simp only [p_is_whole, b_is_whole, env0_cons, env0_nil, env0_zero]
  cases d <;> first | (simp [gd] at hd; done) | (simp [isW]; rw [retV_self (by simp)])
theorem f_is_fraction (k : Nat) (h : Sto) {d : D} (hd : gd d = true) : callF P (k + 2) "is_fraction" [d] h = some (.ok (.d (.bl (isFr d))) h) := by
  rw [callF_eq (d := p_is_fraction.d) c_is_fraction.lk rfl]
  simp only [p_is_fraction, b_is_fraction, env0_cons, env0_nil, env0_zero]
  cases d with
  | tup xs =>
    match xs with
    | [] => simp [isFr]; rw [retV_self (by simp)]
    | [x] => simp [isFr]; rw [retV_self (by simp)]
    | [x, y] =>
      simp at hd
      simp [f_is_whole k h hd.1, f_is_whole k h hd.2]
      cases x <;> first | (simp [isFr, isW]; rw [retV_self (by simp)]; done) | skip
      cases y <;> first | (simp [isFr, isW]; rw [retV_self (by simp)]; done) | skip
      rename_i a b
      simp [isFr, isW, f_divisor]
      by_cases hb : 0 < b
      · simp [hb]; rw [retV_self (by simp)]; simp; omega
      · simp [hb]; rw [retV_self (by simp)]
    | x :: y :: z :: r =>
      have e : isFr (.tup (x :: y :: z :: r)) = false := by
        cases x <;> try rfl
        cases y <;> rfl
      have hl : ¬ ((r.length : Int) + 1 + 1 + 1 = 2) := by omega
      simp [e, hl]; rw [retV_self (by simp)]
  | fz xs => simp [gd] at hd
  | exn _ _ => simp [gd] at hd
  | ref _ => simp [gd] at hd
  | _ => simp [isFr]; rw [retV_self (by simp)]
theorem chr_mem (c : Nat) (h : Sto) : memv h (.str ⟨#[c]⟩) (.str "abcdefghijklmnopqrstuvwxyz") = some (decide (c ∈ LET)) := by
  rw [mem_str]
  exact if_pos rfl
@[simp] theorem c_LETTERS' : List.lookup (Str.ofString "LETTERS") P.csts = some (.str "abcdefghijklmnopqrstuvwxyz") := by kernel_rfl
@[simp] theorem c_WORDS' : List.lookup (Str.ofString "WORDS") P.csts = some (.tup [.str "plus", .str "minus", .str "times", .str "over"]) := by kernel_rfl
@[simp] theorem c_MOST' : List.lookup (Str.ofString "MOST_PARTS") P.csts = some (.int 60) := by kernel_rfl
theorem f_is_name (k : Nat) (h : Sto) {d : D} (hd : gd d = true) : callF P (k + 1) "is_name" [d] h = some (.ok (.d (.bl (isNm d))) h) := by
  rw [callF_eq (d := p_is_name.d) c_is_name.lk rfl]
  simp only [p_is_name, b_is_name, env0_cons, env0_nil, env0_zero]
  cases d with
  | str x =>
    simp at hd
    have hlen : b1v .len h (.str x) = some (.d (.int x.length)) := if_pos hd
    simp [hlen]
    by_cases h1 : x.length < 1
    · have e : isNm (.str x) = false := by simp [isNm]; omega
      have h1' : ((x.length : Int) < 1) := by omega
      simp [h1', e]; rw [retV_self (by simp)]
    · have h1' : ¬ ((x.length : Int) < 1) := by omega
      by_cases h8 : 8 < x.length
      · have e : isNm (.str x) = false := by simp [isNm]; omega
        have h8' : (8 : Int) < x.length := by omega
        simp [h1', h8', e]; rw [retV_self (by simp)]
      · have h8' : ¬ (8 : Int) < x.length := by omega
        simp [h1', h8']
        rw [lc_pure (ds := x.cps.toList.map fun c => D.str ⟨#[c]⟩) (g := fun d => match d with | .str y => .bl (decide (y.cps.getD 0 0 ∈ LET)) | _ => .non) (h' := h) (by simp) (by
          have : x.length = x.cps.size := rfl
          simp; omega) (by
          intro y hy
          obtain ⟨c, _, rfl⟩ := List.mem_map.mp hy
          simp [lcTurn, wipeE, ctx, chr_mem]
          )]
        simp [b1v, items, Function.comp_def]
        have hb : ∀ l : List Nat, bools (l.map fun c => D.bl (decide (c ∈ LET))) = some (l.map fun c => decide (c ∈ LET)) := by
          intro l
          induction l with
          | nil => rfl
          | cons c l ih => simp [bools, ih]
        rw [hb]
        simp
        rw [retV_self (by simp)]
        have e : isNm (.str x) = x.cps.toList.all fun c => decide (c ∈ LET) := by
          have a1 : 1 ≤ x.length := by omega
          have a2 : x.length ≤ 8 := by omega
          simp [isNm, a1, a2]
        rw [e]
        simp [List.all_map]
        done
  | fz xs => simp [gd] at hd
  | exn _ _ => simp [gd] at hd
  | ref _ => simp [gd] at hd
  | _ => simp [isNm]; rw [retV_self (by simp)]
theorem f_is_leaf (k : Nat) (h : Sto) {w : Str} {r : List D} (hw : w.length ≤ sizeLine) (hr : gds r = true) : callF P (k + 3) "is_leaf" [.tup (.str w :: r)] h =
    some (.ok (.d (.bl (match r with | [x] => (decide (w = "name") && isNm x) || (decide (w = "number") && isFr x) | _ => false))) h) := by
  rw [callF_eq (d := p_is_leaf.d) c_is_leaf.lk rfl]
  simp only [p_is_leaf, b_is_leaf, env0_cons, env0_nil, env0_zero]
  match r, hr with
  | [], _ => simp; rw [retV_self (by simp)]
  | [x], hr =>
    simp at hr
    simp [f_is_name (k + 1) h hr, f_is_fraction k h hr]
    by_cases h1 : w = "name"
    · subst h1
      have e : ¬ (("name" : Str) = "number") := by decide
      simp [e]
      cases isNm x
      · simp; rw [retV_self (by simp)]
      · simp; rw [retV_self (by simp)]
    · by_cases h2 : w = "number"
      · subst h2
        simp [h1, f_is_fraction k h hr]; rw [retV_self (by simp)]
      · simp [h1, h2]; rw [retV_self (by simp)]
  | x :: y :: r, _ =>
    have hl : ¬ ((r.length : Int) + 1 + 1 + 1 = 2) := by omega
    simp [hl]; rw [retV_self (by simp)]
def WDS : List Str := ["plus", "minus", "times", "over"]
/-- the parts of a formula's top, none of what is no formula at the top -/
def sides : D → Option (List D)
  | .tup [.str w, a, b] => if w ∈ WDS then some [a, b] else none
  | .tup [.str w, a] => if (w = "name" ∧ isNm a = true) ∨ (w = "number" ∧ isFr a = true) then some [] else none
  | _ => none
theorem mem_words (h : Sto) (w : Str) : memv h (.str w) (.tup [.str "plus", .str "minus", .str "times", .str "over"]) = some (decide (w ∈ WDS)) := by
  rw [mem_stup, if_pos (by rfl)]
  simp only [L2.inV, D.toV, WDS, List.map_cons, List.map_nil, List.any_cons, List.any_nil, L2.eqV, Bool.or_false, List.mem_cons, List.not_mem_nil, or_false]
  have e : ∀ a b : Str, (a == b) = decide (b = a) := fun a b => by
    by_cases h : b = a
    · subst h; simp
    · have h' : a ≠ b := fun z => h z.symm
      simp [h, h']
  simp only [e, Bool.decide_or]
def sideR : Option (List D) → R
  | none => .d .non
  | some s => .tl s
theorem f_sides_of (k : Nat) (h : Sto) {d : D} (hd : gd d = true) (hr : ∀ n, d.low n = true) : callF P (k + 4) "sides_of" [d] h = some (.ok (sideR (sides d)) h) := by
  rw [callF_eq (d := p_sides_of.d) c_sides_of.lk rfl]
  simp only [p_sides_of, b_sides_of, env0_cons, env0_nil, env0_zero]
  cases d with
  | tup xs =>
    match xs, hd with
    | [], _ => simp [sides, sideR]; rw [retV_self (by simp)]
    | [x], _ => simp [sides, sideR]; rw [retV_self (by simp)]
    | x :: y :: r, hd =>
      simp at hd
      have hl : ¬ ((r.length : Int) + 1 + 1 < 2) := by omega
      cases x with
      | str w =>
        have lf := f_is_leaf k h (w := w) (r := y :: r) (by simpa using hd.1) (by simp [hd.2.1, hd.2.2])
        match r, hd, lf with
        | [], hd, lf =>
          simp [lf, sides]
          by_cases c : w = ("name" : Str) ∧ isNm y = true ∨ w = ("number" : Str) ∧ isFr y = true
          · rw [if_pos c, if_pos c]
            simp [sideR]; rw [retV_self (by simp)]
          · rw [if_neg c, if_neg c]
            simp [sideR]; rw [retV_self (by simp)]
        | [z], hd, lf =>
          have hr' := hr h.length
          simp at hr'
          simp [lf, sides, mem_words]
          by_cases c : w ∈ WDS
          · rw [if_pos c, if_pos c]
            simp [sideR]; rw [retV_self (by simp [hr'])]
          · rw [if_neg c, if_neg c]
            simp [lf, sideR]; rw [retV_self (by simp)]
        | z :: u :: r, hd, lf =>
          have hl3 : ¬ ((r.length : Int) + 1 + 1 + 1 + 1 = 3) := by omega
          have hl2 : ¬ ((r.length : Int) + 1 + 1 + 1 + 1 < 2) := by omega
          simp [lf, sides, hl3, hl2, sideR]; rw [retV_self (by simp)]
      | fz _ => simp [gd] at hd
      | exn _ _ => simp [gd] at hd
      | ref _ => simp [gd] at hd
      | _ => simp [sides, sideR, hl]; rw [retV_self (by simp)]
  | fz xs => simp [gd] at hd
  | exn _ _ => simp [gd] at hd
  | ref _ => simp [gd] at hd
  | _ => simp [sides, sideR]; rw [retV_self (by simp)]
/-! ### is_formula -/
def isF : Nat → List D → Bool
  | _, [] => true
  | 0, _ :: _ => false
  | f + 1, d :: r => match sides d with
    | none => false
    | some s => isF f (s.reverse ++ r)
theorem isF_nil {f : Nat} : isF f [] = true := by cases f <;> rfl
/-- nothing of it hangs on the store -/
def Pu (d : D) : Prop := gd d = true ∧ ∀ n, d.low n = true
theorem sides_pu {d : D} {s : List D} (h : Pu d) (e : sides d = some s) : s.length ≤ 2 ∧ ∀ x ∈ s, Pu x := by
  unfold sides at e
  split at e
  · rename_i w a b
    split at e
    · cases e
      obtain ⟨h1, h2⟩ := h
      simp at h1 h2
      refine ⟨by simp, fun x hx => ?_⟩
      rcases List.mem_cons.mp hx with rfl | hx
      · exact ⟨h1.2.1, fun n => (h2 n).1⟩
      · rw [List.mem_singleton] at hx
        subst hx
        exact ⟨h1.2.2, fun n => (h2 n).2⟩
    · cases e
  · split at e
    · cases e
      exact ⟨by simp, fun x hx => absurd hx (by simp)⟩
    · cases e
  · cases e
abbrev wc : E := .cmp .ne (.var 1) (.lst .anil)
abbrev wb : S := .cons (.set (.v 3) (.call "sides_of" (.acons (.met .pop (.var 1) .anil) .anil))) (.cons (.aug 2 .add (.lit (.int 1)))
  (.cons (.ifs (.or (.cmp .is (.var 3) (.lit .non)) (.cmp .gt (.var 2) (.glob "MOST_PARTS"))) (.cons (.ret (.lit (.bl false))) .nil) .nil) (.cons (.expr (.met .extend (.var 1) (.acons (.var 3) .anil))) .nil)))
theorem ne_nil_ref {h : Sto} {n : Nat} {xs : List D} (q : h[n]? = some (.lst xs)) : cmpv .ne h (.ref n) (.lst []) = some (!xs.isEmpty) := by
  simp [cmpv, eqvS, items, q]
theorem get_last {h : Sto} {o : Ob} : (h ++ [o])[h.length]? = some o := by simp
theorem pop_last {h : Sto} {xs : List D} {x : D} : metv .pop (h ++ [.lst (xs ++ [x])]) (.ref h.length) [] = some (.d x, h ++ [.lst xs]) := by
  simp [metv]
theorem ext_last {h : Sto} {xs ys : List D} (hl : xs.length + ys.length ≤ sizeLine) : metv .extend (h ++ [.lst xs]) (.ref h.length) [.lst ys] = some (.d .non, h ++ [.lst (xs ++ ys)]) := by
  simp [metv, hl]
@[simp] theorem recv_pop {h : Sto} {xs : List D} : recvOk .pop (h ++ [.lst xs]) (.ref h.length) = true := by
  simp [recvOk, items]
@[simp] theorem recv_ext {h : Sto} {xs : List D} : recvOk .extend (h ++ [.lst xs]) (.ref h.length) = true := by
  simp [recvOk, items]
theorem is_tl {h : Sto} {xs : List D} : cmpv .is h (.lst xs) .non = some false := rfl
theorem loop (k : Nat) (h : Sto) (d0 : D) : ∀ (fuel : Nat) (m : Int) (st : List D) (s3 : Option D), 0 ≤ m → m + fuel = 60 → (∀ x ∈ st, Pu x) → (st.length : Int) ≤ m + 1 →
    ∃ res, whlC (evE (ctx P (k + 4)) wc) (exS (ctx P (k + 4)) wb) [some d0, some (.ref h.length), some (.int m), s3] (h ++ [.lst st.reverse]) = some res ∧
      (isF fuel st = true → ∃ e, res = .nx e (h ++ [.lst []])) ∧ (isF fuel st = false → ∃ xs, res = .rt (.d (.bl false)) (h ++ [.lst xs])) := by
  intro fuel
  induction fuel with
  | zero =>
    intro m st s3 h0 hm hp hl
    cases st with
    | nil =>
      refine ⟨_, by rw [whlC_eq]; simp [ne_nil_ref get_last]; rfl, fun _ => ⟨_, rfl⟩, fun z => by rw [isF_nil] at z; cases z⟩
    | cons d r =>
      have hd := hp d List.mem_cons_self
      refine ⟨_, by
        rw [whlC_eq]
        have e : m = 60 := by omega
        subst e
        simp only [List.reverse_cons]
        simp [ne_nil_ref get_last, pop_last, f_sides_of k _ hd.1 hd.2]
        cases hs : sides d with
        | none => simp [sideR]; rfl
        | some s => simp [sideR, is_tl], fun z => by simp [isF] at z, fun _ => ⟨_, rfl⟩⟩
  | succ f ih =>
    intro m st s3 h0 hm hp hl
    cases st with
    | nil =>
      refine ⟨_, by rw [whlC_eq]; simp [ne_nil_ref get_last]; rfl, fun _ => ⟨_, rfl⟩, fun z => by rw [isF_nil] at z; cases z⟩
    | cons d r =>
      have hd := hp d List.mem_cons_self
      cases hs : sides d with
      | none =>
        refine ⟨_, by
          rw [whlC_eq]
          simp only [List.reverse_cons]
          simp [ne_nil_ref get_last, pop_last, f_sides_of k _ hd.1 hd.2, hs, sideR]
          rfl, fun z => by simp [isF, hs] at z, fun _ => ⟨_, rfl⟩⟩
      | some s =>
        obtain ⟨l2, hs2⟩ := sides_pu hd hs
        simp only [List.length_cons] at hl
        obtain ⟨res, r1, r2, r3⟩ := ih (m + 1) (s.reverse ++ r) (some (.lst s)) (by omega) (by omega) (fun x hx => by
          rcases List.mem_append.mp hx with hx | hx
          · exact hs2 x (List.mem_reverse.mp hx)
          · exact hp x (List.mem_cons_of_mem _ hx)) (by simp only [List.length_append, List.length_reverse]; omega)
        have hz : r.reverse.length + s.length ≤ sizeLine := by
          have : (200 : Nat) ≤ sizeLine := by decide
          rw [List.length_reverse]
          omega
        have hn : ¬ (60 < m + 1) := by omega
        refine ⟨res, ?_, ?_, ?_⟩
        · rw [whlC_eq]
          simp only [List.reverse_cons]
          simp [ne_nil_ref get_last, pop_last, f_sides_of k _ hd.1 hd.2, hs, sideR, is_tl, hn, ext_last hz]
          rw [← r1]
          simp
        · simpa [isF, hs] using r2
        · simpa [isF, hs] using r3
theorem f_is_formula (k : Nat) (h : Sto) {d : D} (hd : Pu d) : callF P (k + 5) "is_formula" [d] h = some (.ok (.d (.bl (isF 60 [d]))) h) := by
  obtain ⟨res, r1, r2, r3⟩ := loop k h d 60 0 [d] none (by omega) (by omega) (fun x hx => by rw [List.mem_singleton] at hx; rw [hx]; exact hd) (by simp)
  rw [callF_eq (d := p_is_formula.d) c_is_formula.lk rfl]
  simp only [p_is_formula, b_is_formula, env0_cons, env0_nil, env0_zero]
  simp at r1
  simp [r1]
  cases hf : isF 60 [d] with
  | true =>
    obtain ⟨e, rfl⟩ := r2 hf
    simp
    rw [retV_app (by simp)]
  | false =>
    obtain ⟨xs, rfl⟩ := r3 hf
    simp
    rw [retV_app (by simp)]
end Tc.K34

namespace Tc.K34
open PySem L2
abbrev scr (ns : List Int) : D := .fz (ns.map D.int)
def cell (ns : List Int) (i : Nat) : Int := ns.getD i 0
theorem f_cell_at (k : Nat) (h : Sto) (ns : List Int) (i : Nat) : callF P (k + 1) "_law_cell_at" [scr ns, .int i] h = some (.ok (.d (.int (cell ns i))) h) := by
  rw [callF_eq (d := p__law_cell_at.d) c__law_cell_at.lk rfl]
  simp only [p__law_cell_at, b__law_cell_at, env0_cons, env0_nil, env0_zero]
  by_cases hi : i < ns.length
  · have hi' : (i : Int) < ns.length := by omega
    simp [hi, hi', atI_nat, cell]
    rw [retV_self (by simp)]
  · have hi' : ¬ (i : Int) < ns.length := by omega
    have e : ns[i]? = none := List.getElem?_eq_none (by omega)
    simp [hi, hi', cell, e]
    rw [retV_self (by simp)]
theorem f_draw (k : Nat) (h : Sto) (ns : List Int) (i : Nat) : ∃ n : Int, callF P (k + 2) "_law_draw" [scr ns, .int i] h = some (.ok (.d (.int n)) h) := by
  have c0 := f_cell_at k h ns 0
  have ci := f_cell_at k h ns i
  rw [callF_eq (d := p__law_draw.d) c__law_draw.lk rfl]
  simp only [p__law_draw, b__law_draw, env0_cons, env0_nil, env0_zero]
  simp at c0 ci
  by_cases h2 : (cell ns 0).fmod 2 = 0
  · simp [c0, ci, bin_mod, h2]
    rw [retV_self (by simp)]
    exact ⟨_, rfl⟩
  · simp [c0, ci, bin_mod, h2, mul_r, mul_l, bin_pow]
    rw [retV_self (by simp)]
    exact ⟨_, rfl⟩
/-! ### lowest terms -/
theorem whl_low (k : Nat) (h : Sto) (x y : Option D) : ∀ (n : Nat) (a b : Nat), b ≤ n →
    whlC (evE (ctx P k) (.cmp .gt (.var 3) (.lit (.int 0)))) (exS (ctx P k) (.cons (.par 2 3 (.var 3) (.bin .mod (.var 2) (.var 3))) .nil)) [x, y, some (.int a), some (.int b)] h = some (.nx [x, y, some (.int (Nat.gcd a b)), some (.int 0)] h) := by
  intro n
  induction n with
  | zero =>
    intro a b hb
    have hb0 : b = 0 := by omega
    subst hb0
    rw [whlC_eq]
    simp
  | succ n ih =>
    intro a b hb
    by_cases h0 : b = 0
    · subst h0
      rw [whlC_eq]
      simp
    · have e : (a : Int).fmod b = ((a % b : Nat) : Int) := by
        rw [Int.fmod_eq_emod_of_nonneg _ (by omega)]
        rfl
      have z := ih b (a % b) (by have := Nat.mod_lt a (Nat.pos_of_ne_zero h0); omega)
      rw [whlC_eq]
      have hb' : 0 < b := Nat.pos_of_ne_zero h0
      have e2 : Nat.gcd b (a % b) = Nat.gcd a b := by rw [Nat.gcd_comm a b, Nat.gcd_rec b a, Nat.gcd_comm]
      simp [h0, hb', bin_mod, e]
      rw [Int.natCast_emod] at z
      rw [z, e2]
theorem f_lowest (k : Nat) (h : Sto) (a b : Int) (hb : 0 < b) (hs : b < 2 ^ 64) : ∃ t c : Int, 0 < c ∧ Int.gcd t c = 1 ∧ callF P (k + 1) "_law_lowest" [.int a, .int b] h = some (.ok (.d (.tup [.int t, .int c])) h) := by
  have z := whl_low k h (some (.int a)) (some (.int b)) _ a.natAbs b.natAbs (Nat.le_refl _)
  have g0 : 0 < Nat.gcd a.natAbs b.natAbs := Nat.gcd_pos_of_pos_right _ (by omega)
  have gle : Nat.gcd a.natAbs b.natAbs ≤ b.natAbs := Nat.gcd_le_right _ (by omega)
  refine ⟨a.fdiv (Nat.gcd a.natAbs b.natAbs : Nat), b.fdiv (Nat.gcd a.natAbs b.natAbs : Nat), ?_, ?_, ?_⟩
  · rw [Int.fdiv_eq_ediv_of_nonneg _ (by omega)]
    exact Int.ediv_pos_of_pos_of_dvd hb (by omega) (Int.gcd_dvd_right a b)
  · rw [Int.fdiv_eq_ediv_of_nonneg _ (by omega), Int.fdiv_eq_ediv_of_nonneg _ (by omega)]
    exact Int.gcd_ediv_gcd_ediv_gcd g0
  · rw [callF_eq (d := p__law_lowest.d) c__law_lowest.lk rfl]
    simp only [p__law_lowest, b__law_lowest, env0_cons, env0_nil, env0_zero]
    have hb' : ¬ b < 0 := by omega
    have gn : ((Nat.gcd a.natAbs b.natAbs : Nat) : Int) ≠ 0 := by omega
    have gs : ((Nat.gcd a.natAbs b.natAbs : Nat) : Int).natAbs < 2 ^ 64 := by omega
    have d1 := fun h : Sto => div_s (h := h) (p := a) gn gs
    have d2 := fun h : Sto => div_s (h := h) (p := b) gn gs
    simp [z, hb', d1, d2]
    rw [retV_self (by simp)]
/-! ### names -/
/-- so many small letters -/
def Let (n : Nat) (x : D) : Prop := ∃ s : Str, x = .str s ∧ s.cps.size = n ∧ ∀ c ∈ s.cps.toList, c ∈ LET
theorem Let.app {n : Nat} {s : Str} {c : Nat} (hs : s.cps.size = n) (hl : ∀ c ∈ s.cps.toList, c ∈ LET) (hc : c ∈ LET) : Let (n + 1) (.str (s ++ ⟨#[c]⟩)) := by
  refine ⟨_, rfl, ?_, fun x hx => ?_⟩
  · show (s.cps ++ #[c]).size = _
    simp [hs]
  · have hx' : x ∈ (s.cps ++ #[c]).toList := hx
    simp at hx'
    rcases hx' with hx' | hx'
    · exact hl x (by simpa using hx')
    · rw [hx']; exact hc
theorem let_len : LET.length = 26 := by kernel_rfl
theorem f_names (k : Nat) (h : Sto) (n : Int) : ∃ r, callF P (k + 1) "_law_names" [.int n] h = some (.ok r h) ∧ ∃ l : List D, r = .tl l ∧ l.length = 4 ∧ ∃ m, 1 ≤ m ∧ m ≤ 8 ∧ ∀ x ∈ l, Let m x := by
  have s0 := Int.fmod_nonneg_of_pos n (b := 8) (by omega)
  have s1 := Int.fmod_lt_of_pos n (b := 8) (by omega)
  obtain ⟨m, hm⟩ : ∃ m : Nat, n.fmod 8 = m := ⟨(n.fmod 8).toNat, by omega⟩
  have hm8 : m < 8 := by omega
  have hm1 : (1 + n.fmod 8) ≠ 0 := by omega
  rw [callF_eq (d := p__law_names.d) c__law_names.lk rfl]
  apply fin_wp
  simp only [p__law_names, b__law_names, env0_cons, env0_nil, env0_zero]
  simp [bin_mod, hm1, div_s, mul_r, mul_list, rng1 (n := 1 + m) (i := 1 + n.fmod 8) (by omega) (by omega), List.replicate_succ]
  rw [wp_then]
  refine wp_range (fun i e h1 => ∃ (num : Int) (c5 c6 c7 : Option D) (l : List D), e = [some (.int num), some (.str "abcdefghijklmnopqrstuvwxyz"), some (.int (1 + n.fmod 8)), some (.int (((n.fdiv 8).fmod 8).fmod (1 + n.fmod 8))), some (.ref h.length), c5, c6, c7] ∧ h1 = h ++ [.lst l] ∧ l.length = 4 ∧ ∀ x ∈ l, Let i x) ?_ ?_ ?_
  · refine ⟨_, _, _, _, _, rfl, rfl, rfl, fun x hx => ⟨"", ?_, rfl, fun c hc => ?_⟩⟩
    · simpa using hx
    · have : (("" : Str).cps.toList) = [] := by kernel_rfl
      rw [this] at hc
      exact absurd hc (by simp)
  · rintro j hj e h1 ⟨num, c5, c6, c7, l, rfl, rfl, hl, hx⟩
    simp [rng1 (n := 4) (i := 4)]
    have hb : -(2 : Int) ^ 64 < (if (j : Int) = ((n.fdiv 8).fmod 8 |>.fmod (1 + n.fmod 8)) then 1 else 0) ∧ (if (j : Int) = ((n.fdiv 8).fmod 8 |>.fmod (1 + n.fmod 8)) then 1 else 0) < (2 : Int) ^ 64 := by
      split <;> decide
    rw [wp_then]
    refine wp_range (fun i e h1 => ∃ (c6 c7 : Option D) (l : List D), e = [some (.int num), some (.str "abcdefghijklmnopqrstuvwxyz"), some (.int (1 + n.fmod 8)), some (.int (((n.fdiv 8).fmod 8).fmod (1 + n.fmod 8))), some (.ref h.length), some (.int j), c6, c7] ∧ h1 = h ++ [.lst l] ∧ l.length = 4 ∧ ∀ t x, l[t]? = some x → Let (if t < i then j + 1 else j) x) ?_ ?_ ?_
    · exact ⟨_, _, l, rfl, rfl, hl, fun t x q => by simpa using hx x (List.mem_of_getElem? q)⟩
    · intro t ht e h1 hI
      obtain ⟨c6, c7, l, he, hh, hl, hx⟩ := hI
      subst he
      subst hh
      obtain ⟨s, q1, q2, q3⟩ := hx t l[t] (List.getElem?_eq_getElem (by omega))
      rw [if_neg (by omega)] at q2
      obtain ⟨ch, c1, c2⟩ := atI_fmod (xs := LET) (n := num + t * (if (j : Int) = ((n.fdiv 8).fmod 8 |>.fmod (1 + n.fmod 8)) then 1 else 0)) (L := 26) (by rw [let_len]; rfl) (by omega)
      have z : (("abcdefghijklmnopqrstuvwxyz" : Str).cps.toList) = LET := rfl
      have hs : s.length + Str.length ⟨#[ch]⟩ ≤ sizeLine := by
        have : s.length = j := q2
        have : Str.length ⟨#[ch]⟩ = 1 := rfl
        have : (200 : Nat) ≤ sizeLine := by decide
        omega
      have ls : ∀ h : Sto, ixv h (.str "abcdefghijklmnopqrstuvwxyz") (.int ((num + t * (if (j : Int) = ((n.fdiv 8).fmod 8 |>.fmod (1 + n.fmod 8)) then 1 else 0)).fmod 26)) = some (.d (.str ⟨#[ch]⟩)) := fun h => by
        rw [ix_str (by decide +kernel), z, c2]
        rfl
      have lt : l[t]? = some (.str s) := by rw [List.getElem?_eq_getElem (by omega), q1]
      simp [mul_r hb, bin_mod, ls, ix_last, atI_nat, lt, bin_adds (u := s) (v := ⟨#[ch]⟩) hs, setix_last (xs := l) (n := t) (by omega)]
      refine ⟨hl, fun t' x hx' => ?_⟩
      rw [List.getElem?_set] at hx'
      split at hx'
      · rename_i hh
        subst hh
        rw [if_pos (by omega)] at hx'
        cases hx'
        rw [if_pos (by omega)]
        exact Let.app q2 q3 c1
      · have z := hx t' x hx'
        by_cases h1 : t' < t
        · rw [if_pos h1] at z; rw [if_pos (by omega)]; exact z
        · rw [if_neg h1] at z; rw [if_neg (by omega)]; exact z
    · rintro e h1 ⟨c6, c7, l, rfl, rfl, hl, hx⟩
      simp [div_s]
      refine ⟨hl, fun x hm => ?_⟩
      obtain ⟨t, ht⟩ := List.getElem?_of_mem hm
      have z := hx t x ht
      rw [if_pos (by have := (List.getElem?_eq_some_iff.mp ht).1; omega)] at z
      exact z
  · rintro e h1 ⟨num, c5, c6, c7, l, rfl, rfl, hl, hx⟩
    simp
    refine ret_new (lows_iff.mpr fun x hm => ?_) ⟨l, rfl, hl, 1 + m, by omega, by omega, hx⟩
    obtain ⟨s, rfl, _⟩ := hx x hm
    simp
end Tc.K34

namespace Tc.K34
open PySem L2
/-- a formula of so many parts -/
inductive Fm : D → Nat → Prop
  | name {s : Str} : isNm (.str s) = true → Fm (.tup [.str "name", .str s]) 1
  | num {a b : Int} : isFr (.tup [.int a, .int b]) = true → Fm (.tup [.str "number", .tup [.int a, .int b]]) 1
  | two {w : Str} {a b : D} {n m : Nat} : w ∈ WDS → Fm a n → Fm b m → Fm (.tup [.str w, a, b]) (n + m + 1)
theorem nm_len {s : Str} (h : isNm (.str s) = true) : s.length ≤ sizeLine := by
  simp [isNm] at h
  exact Nat.le_trans h.1.2 (by decide)
theorem wds_len {w : Str} (h : w ∈ WDS) : w.length ≤ sizeLine := by
  have z : ∀ w ∈ WDS, w.length ≤ 10 := by decide +kernel
  exact Nat.le_trans (z w h) (by decide)
theorem Fm.pu {d : D} {n : Nat} (h : Fm d n) : Pu d := by
  induction h with
  | name h => exact ⟨by simp [nm_len h]; decide +kernel, fun n => by simp⟩
  | num h => exact ⟨by simp; decide +kernel, fun n => by simp⟩
  | two hw _ _ i1 i2 => exact ⟨by simp [wds_len hw, i1.1, i2.1], fun n => by simp [i1.2 n, i2.2 n]⟩
theorem Fm.pos {d : D} {n : Nat} (h : Fm d n) : 1 ≤ n := by cases h <;> omega
inductive Fms : List D → Nat → Prop
  | nil : Fms [] 0
  | cons {d : D} {n : Nat} {r : List D} {m : Nat} : Fm d n → Fms r m → Fms (d :: r) (n + m)
theorem isF_fms : ∀ (f : Nat) (st : List D) (n : Nat), Fms st n → isF f st = decide (n ≤ f)
  | f, _, _, .nil => by simp [isF_nil]
  | 0, _, _, .cons (n := n) (m := m) h r => by
    have := h.pos
    have : ¬ (n + m ≤ 0) := by omega
    simp [isF]
    omega
  | f + 1, _, _, .cons (n := n) (m := m) (r := r) h hr => by
    cases h with
    | name h =>
      have e : sides (.tup [.str "name", .str _]) = some [] := if_pos (.inl ⟨rfl, h⟩)
      simp only [isF, e, List.reverse_nil, List.nil_append]
      rw [isF_fms f r m hr]
      simp only [decide_eq_decide]
      omega
    | num h =>
      have e : sides (.tup [.str "number", .tup [.int _, .int _]]) = some [] := if_pos (.inr ⟨rfl, h⟩)
      simp only [isF, e, List.reverse_nil, List.nil_append]
      rw [isF_fms f r m hr]
      simp only [decide_eq_decide]
      omega
    | @two w a b n1 n2 hw ha hb =>
      have e : sides (.tup [.str w, a, b]) = some [a, b] := if_pos hw
      simp only [isF, e]
      show isF f (b :: a :: r) = _
      rw [isF_fms f _ _ (.cons hb (.cons ha hr))]
      simp only [decide_eq_decide]
      omega
theorem isF_fm {d : D} {n : Nat} (h : Fm d n) : isF 60 [d] = decide (n ≤ 60) := by
  have z := isF_fms 60 [d] (n + 0) (.cons h .nil)
  simpa using z
/-- no formula -/
inductive Bad : D → Prop
  | none {d : D} : sides d = none → Bad d
  | side {d x : D} {s : List D} : sides d = some s → x ∈ s → Bad x → Bad d
theorem isF_bad : ∀ (f : Nat) (st : List D) (x : D), x ∈ st → Bad x → isF f st = false
  | _, [], _, m, _ => absurd m (by simp)
  | 0, d :: r, x, _, _ => rfl
  | f + 1, d :: r, x, m, b => by
    cases hs : sides d with
    | none => simp [isF, hs]
    | some s =>
      simp only [isF, hs]
      rcases List.mem_cons.mp m with rfl | m
      · cases b with
        | none e => rw [hs] at e; cases e
        | @side _ y s' e my b =>
          rw [hs] at e
          cases e
          exact isF_bad f _ y (by simp [my]) b
      · exact isF_bad f _ x (by simp [m]) b
theorem let_nm {m : Nat} {x : D} (h1 : 1 ≤ m) (h8 : m ≤ 8) (h : Let m x) : ∃ s, x = .str s ∧ isNm (.str s) = true := by
  obtain ⟨s, rfl, e, hl⟩ := h
  refine ⟨s, rfl, ?_⟩
  have e' : s.length = m := e
  simp only [isNm, Bool.and_eq_true, decide_eq_true_eq, List.all_eq_true]
  exact ⟨⟨by omega, by omega⟩, hl⟩
theorem f_leaf (k : Nat) (h : Sto) (n : Int) {l : List D} {m : Nat} (h4 : l.length = 4) (h1 : 1 ≤ m) (h8 : m ≤ 8) (hl : ∀ x ∈ l, Let m x) : ∃ d, callF P (k + 2) "_law_leaf" [.int n, .lst l] h = some (.ok (.d d) h) ∧ Fm d 1 := by
  obtain ⟨x, hx, ex⟩ := atI_fmod (xs := l) (n := n.fdiv 5) (L := 4) (by rw [h4]; rfl) (by omega)
  obtain ⟨s, rfl, hs⟩ := let_nm h1 h8 (hl x hx)
  have fr : ∀ {t c : Int}, 0 < c → Int.gcd t c = 1 → isFr (.tup [.int t, .int c]) = true := fun a b => by simp [isFr, a, b]
  have a0 := Int.fmod_nonneg_of_pos ((n.fdiv 5).fdiv 7) (b := 3) (by omega)
  have a1 := Int.fmod_lt_of_pos ((n.fdiv 5).fdiv 7) (b := 3) (by omega)
  obtain ⟨t, c, c0, cg, e1⟩ := f_lowest k h ((n.fdiv 5).fmod 7 - 3) (1 + ((n.fdiv 5).fdiv 7).fmod 3) (by omega) (by omega)
  have b0 := Int.fmod_nonneg_of_pos ((n.fdiv 5).fdiv 1999999999999) (b := 999999999999) (by omega)
  have b1 := Int.fmod_lt_of_pos ((n.fdiv 5).fdiv 1999999999999) (b := 999999999999) (by omega)
  obtain ⟨t2, c2, c20, cg2, e2⟩ := f_lowest k h ((n.fdiv 5).fmod 1999999999999 - 1000000000000 + 1) (1 + ((n.fdiv 5).fdiv 1999999999999).fmod 999999999999) (by omega) (by omega)
  rw [callF_eq (d := p__law_leaf.d) c__law_leaf.lk rfl]
  simp only [p__law_leaf, b__law_leaf, env0_cons, env0_nil, env0_zero]
  by_cases w1 : n.fmod 5 < 3
  · simp [bin_mod, div_s, w1, ex]
    rw [retV_self (by simp)]
    exact ⟨_, rfl, .name hs⟩
  · by_cases w2 : n.fmod 5 = 3
    · simp [bin_mod, div_s, w2, e1]
      rw [retV_self (by simp)]
      exact ⟨_, rfl, .num (fr c0 cg)⟩
    · simp [bin_mod, div_s, mul_r, mul_l, bin_pow, w1, w2, e2]
      rw [retV_self (by simp)]
      exact ⟨_, rfl, .num (fr c20 cg2)⟩
/-! ### formulas grown -/
def It (x : D) : Prop := ∃ (f : D) (n : Nat), x = .tup [f, .int n] ∧ Fm f n ∧ n ≤ 60
theorem It.low {x : D} (h : It x) (n : Nat) : x.low n = true := by
  obtain ⟨f, m, rfl, hf, _⟩ := h
  simp [hf.pu.2 n]
theorem wd_mem {w : D} (h : w ∈ [D.str "plus", D.str "minus", D.str "times", D.str "over"]) : ∃ x ∈ WDS, w = .str x := by
  simp at h
  rcases h with rfl | rfl | rfl | rfl
  · exact ⟨"plus", by decide +kernel, rfl⟩
  · exact ⟨"minus", by decide +kernel, rfl⟩
  · exact ⟨"times", by decide +kernel, rfl⟩
  · exact ⟨"over", by decide +kernel, rfl⟩
theorem split2 {α : Type} {l : List α} (h : 2 ≤ l.length) : ∃ ys a b, l = ys ++ [a, b] := by
  have hd : l.dropLast ≠ [] := fun z => by
    have := congrArg List.length z
    rw [List.length_dropLast] at this
    simp at this
    omega
  have hl : l ≠ [] := fun z => by rw [z] at h; simp at h
  refine ⟨l.dropLast.dropLast, l.dropLast.getLast hd, l.getLast hl, ?_⟩
  have e1 := List.dropLast_concat_getLast hl
  have e2 := List.dropLast_concat_getLast hd
  rw [← List.concat_eq_append] at e1 e2
  simp only [List.concat_eq_append] at e1 e2
  conv => lhs; rw [← e1, ← e2]
  simp
theorem f_grown (k : Nat) (h : Sto) (ns : List Int) (hns : ns.length ≤ 63) (a b : Nat) (ha : a ≤ 100) (hb : b ≤ 200) {l : List D} {m : Nat} (h4 : l.length = 4) (h1 : 1 ≤ m) (h8 : m ≤ 8) (hl : ∀ x ∈ l, Let m x) :
    ∃ r, callF P (k + 3) "_law_grown" [scr ns, .int a, .int b, .lst l] h = some (.ok r h) ∧ ∃ st, r = .tl st ∧ ∀ x ∈ st, It x := by
  rw [callF_eq (d := p__law_grown.d) c__law_grown.lk rfl]
  apply fin_wp
  simp only [p__law_grown, b__law_grown, env0_cons, env0_nil, env0_zero]
  obtain ⟨s, ls⟩ : ∃ s, l[0]? = some (D.str s) ∧ isNm (.str s) = true := by
    obtain ⟨s, e, q⟩ := let_nm h1 h8 (hl l[0] (List.getElem_mem (by omega)))
    exact ⟨s, by rw [List.getElem?_eq_getElem (by omega), e], q⟩
  have l0 : L2.atI l 0 = some (.str s) := by rw [show (0 : Int) = ((0 : Nat) : Int) from rfl, atI_nat, ls.1]
  simp [rng2 (a := a) (b := min (b : Int) ns.length) (n := (min (b : Int) ns.length - a).toNat) rfl (by omega) (by omega)]
  rw [wp_then]
  refine wp_range (fun i e h1 => ∃ (r : Nat) (g : Sto) (st : List D) (c5 c6 c7 c8 c9 c10 : Option D), e = [some (scr ns), some (.int a), some (.int b), some (.lst l), some (.ref r), c5, c6, c7, c8, c9, c10] ∧ h1 = h ++ g ∧ h.length ≤ r ∧ (h ++ g)[r]? = some (.lst st) ∧ st.length ≤ i ∧ ∀ x ∈ st, It x) ?_ ?_ ?_
  · exact ⟨h.length, [.lst []], [], _, _, _, _, _, _, rfl, rfl, Nat.le_refl _, by simp, by simp, fun x hx => absurd hx (by simp)⟩
  · rintro j hj e h1' ⟨r, g, st, c5, c6, c7, c8, c9, c10, rfl, rfl, hr, hg, hst, hit⟩
    obtain ⟨n, hn⟩ := f_draw (k := k) (h := h ++ g) ns (a + j)
    rw [Int.natCast_add] at hn
    simp [hn, bin_mod, len_at hg]
    have hz : st.length < sizeLine := by
      have : (400 : Nat) ≤ sizeLine := by decide
      omega
    obtain ⟨d, lf, fm⟩ := f_leaf k (h ++ g) (n.fdiv 3) h4 h1 h8 hl
    have fin1 : ∃ x, List.set (h ++ g) r (Ob.lst (st ++ [D.tup [d, D.int 1]])) = h ++ x ∧ List.length h ≤ r ∧ ∃ x_1, (h ++ x)[r]? = some (Ob.lst x_1) ∧ x_1.length ≤ j + 1 ∧ ∀ (x : D), x ∈ x_1 → It x := by
      refine ⟨_, set_app hr, hr, st ++ [D.tup [d, .int 1]], by rw [← set_app hr]; exact set_at hg, by simp; omega, fun x hx => ?_⟩
      rcases List.mem_append.mp hx with hx | hx
      · exact hit x hx
      · rw [List.mem_singleton] at hx
        exact ⟨d, 1, hx, fm, by omega⟩
    by_cases c1 : n.fmod 3 = 0
    · simp [c1, recv_app_at hg, div_s, lf, app_at hg hz]
      exact fin1
    · by_cases c2 : (st.length : Int) < 2
      · simp [c1, c2, recv_app_at hg, div_s, lf, app_at hg hz]
        exact fin1
      · obtain ⟨w, hw, ew⟩ := atI_fmod (xs := [D.str "plus", D.str "minus", D.str "times", D.str "over"]) (n := n.fdiv 3) (L := 4) rfl (by omega)
        obtain ⟨w, hww, rfl⟩ := wd_mem hw
        obtain ⟨ys, x, y, rfl⟩ := split2 (l := st) (by omega)
        obtain ⟨f1, n1, rfl, m1, b1⟩ := hit x (by simp)
        obtain ⟨f2, n2, rfl, m2, b2⟩ := hit y (by simp)
        have hys : ∀ x ∈ ys, It x := fun x hx => hit x (by simp [hx])
        have hl1 : ys.length + 1 ≤ sizeLine := by simp at hz; omega
        have fin2 : ∀ (u v : D) (nu nv : Nat), Fm u nu → Fm v nv → (1 : Int) + nu + nv < 61 → ys.length ≤ j ∧ ∀ (x : D), x ∈ ys ∨ x = D.tup [D.tup [D.str w, u, v], D.int (1 + ↑nu + ↑nv)] → It x := fun u v nu nv hu hv hlt => by
          refine ⟨by simp at hst; omega, fun x hx => ?_⟩
          rcases hx with hx | hx
          · exact hys x hx
          · have ec : ((nu + nv + 1 : Nat) : Int) = 1 + nu + nv := by omega
            exact ⟨_, nu + nv + 1, by rw [hx, ec], .two hww hu hv, by omega⟩
        have fin3 : List.length h ≤ r ∧ ∃ x, (h ++ g)[r]? = some (Ob.lst x) ∧ x.length ≤ j + 1 ∧ ∀ (x_1 : D), x_1 ∈ x → It x_1 := ⟨hr, _, hg, by omega, hit⟩
        have c2' : ¬ ((ys.length : Int) + 2 < 2) := by omega
        by_cases c3 : (n.fdiv 12).fmod 2 = 1
        · by_cases c4 : (1 : Int) + n2 + n1 < 61
          · simp [c1, c2', div_s, bin_mod, ew, slv_at hg, cutD_last2, cutD_but2, c3, c4, bin_addl, hl1]
            exact fin2 _ _ _ _ m2 m1 c4
          · simp [c1, c2', div_s, bin_mod, ew, slv_at hg, cutD_last2, cutD_but2, c3, c4, bin_addl, hl1]
            exact fin3
        · by_cases c4 : (1 : Int) + n1 + n2 < 61
          · simp [c1, c2', div_s, bin_mod, ew, slv_at hg, cutD_last2, cutD_but2, c3, c4, bin_addl, hl1]
            exact fin2 _ _ _ _ m1 m2 c4
          · simp [c1, c2', div_s, bin_mod, ew, slv_at hg, cutD_last2, cutD_but2, c3, c4, bin_addl, hl1]
            exact fin3
  · rintro e h1' ⟨r, g, st, c5, c6, c7, c8, c9, c10, rfl, rfl, hr, hg, hst, hit⟩
    simp [eq_nil_at hg]
    cases st with
    | nil =>
      simp [l0]
      refine ret_at (st := [.tup [.tup [.str "name", .str s], .int 1]]) (by omega) (by simp) (by simp) ⟨_, rfl, fun x hx => ?_⟩
      rw [List.mem_singleton] at hx
      exact ⟨_, 1, hx, .name ls.2, by omega⟩
    | cons x st =>
      simp
      exact ret_at hr hg (lows_iff.mpr fun x hx => (hit x hx).low _) ⟨_, rfl, hit⟩
end Tc.K34

namespace Tc.K34
open PySem L2
theorem wp_ret_at {xs : List D} {n L : Int} {e : Env} {h : Sto} {N : Env → Sto → Prop} {Rt : R → Sto → Prop} {X : Exn → Env → Sto → Prop} (hl : L = xs.length) (h0 : 0 < L) (q : ∀ x ∈ xs, Rt (.d x) h) :
    Wp (valF (ofV ((L2.atI xs (n.fmod L)).map .d) h) e fun r h1 => some (.rt r h1)) N Rt X := by
  obtain ⟨x, hx, ex⟩ := atI_fmod (xs := xs) (n := n) hl h0
  rw [ex]
  simp
  exact q x hx
theorem sides2 {w : Str} {a : D} (h1 : ¬ (w = "name" ∧ isNm a = true)) (h2 : ¬ (w = "number" ∧ isFr a = true)) : sides (.tup [.str w, a]) = none := if_neg fun z => z.elim h1 h2
theorem sides3 {w : Str} {a b : D} (h1 : w ∉ WDS) : sides (.tup [.str w, a, b]) = none := if_neg h1
abbrev SGN : Str := " !\"#$&'()*+,-./0123456789:;<=>?@ABCDEFGHIJKLMNOPQRSTUVWXYZ[\\]^_`{|}~\n\t"
theorem sgn_not : ∀ c ∈ SGN.cps.toList, c ∉ LET := by decide +kernel
theorem sgn_len : SGN.cps.toList.length = 70 := by decide +kernel
theorem nm_no {s : Str} {c : Nat} (h : c ∈ s.cps.toList) (hc : c ∉ LET) : isNm (.str s) = false := by
  cases e : isNm (.str s) with
  | false => rfl
  | true =>
    simp only [isNm, Bool.and_eq_true, decide_eq_true_eq, List.all_eq_true] at e
    exact absurd (e.2 c h) hc
/-- no formula, and any test can be asked of it -/
structure BP (d : D) : Prop where
  bad : Bad d
  pu : Pu d
theorem bp_name {s : Str} {c : Nat} (h : c ∈ s.cps.toList) (hc : c ∉ LET) (hl : s.length ≤ 10) : BP (.tup [.str "name", .str s]) := by
  refine ⟨.none (sides2 (fun z => ?_) fun z => absurd z.1 (by decide +kernel)), by simp; exact ⟨by decide +kernel, Nat.le_trans hl (by decide)⟩, fun n => by simp⟩
  rw [nm_no h hc] at z
  exact absurd z.2 (by simp)
theorem bpC {d : D} (h1 : (sides d).isNone = true) (h2 : gd d = true) (h3 : ∀ n, d.low n = true) : BP d := ⟨.none (by simpa using h1), h2, h3⟩
theorem app_len {u v : Str} : (u ++ v).length = u.length + v.length := by
  show (u.cps ++ v.cps).size = _
  simp [Str.length]
theorem app_mem {u v : Str} {c : Nat} : c ∈ (u ++ v).cps.toList ↔ c ∈ u.cps.toList ∨ c ∈ v.cps.toList := by
  show c ∈ (u.cps ++ v.cps).toList ↔ _
  simp
theorem bad3 {w : Str} {a b x : D} (hw : w ∈ WDS) (hx : x = a ∨ x = b) (bx : Bad x) : Bad (.tup [.str w, a, b]) := .side (s := [a, b]) (if_pos hw) (by rcases hx with rfl | rfl <;> simp) bx
theorem w_plus : ("plus" : Str) ∈ WDS := by decide +kernel
theorem f_odd (k : Nat) (h : Sto) (n : Int) {f : D} {m : Nat} (hf : Fm f m) : ∃ r, callF P (k + 1) "_law_odd" [.int n, f] h = some (.ok r h) ∧ ∃ d, r = .d d ∧ BP d := by
  have pf := hf.pu
  rw [callF_eq (d := p__law_odd.d) c__law_odd.lk rfl]
  apply fin_wp
  simp only [p__law_odd, b__law_odd, env0_cons, env0_nil, env0_zero]
  by_cases c1 : (n.fdiv 41).fmod 3 = 1
  · obtain ⟨c, hc, ec⟩ := atI_fmod (xs := SGN.cps.toList) (n := n.fdiv 123) (L := 70) (by rw [sgn_len]; rfl) (by omega)
    have ex : ∀ h : Sto, ixv h (.str SGN) (.int ((n.fdiv 123).fmod 70)) = some (.d (.str ⟨#[c]⟩)) := fun h => by
      rw [ix_str (by decide +kernel), ec]
      rfl
    have l1 : Str.length ⟨#[c]⟩ = 1 := rfl
    have la : Str.length "a" = 1 := rfl
    have lb : Str.length "b" = 1 := rfl
    have lc : Str.length "c" = 1 := rfl
    have ld : Str.length "d" = 1 := rfl
    have hn := sgn_not c hc
    have m1 : c ∈ (⟨#[c]⟩ : Str).cps.toList := by simp
    obtain ⟨x, hx, exx⟩ := atI_fmod (xs := [D.str ("a" ++ ⟨#[c]⟩), D.str (⟨#[c]⟩ ++ "b"), D.str ("c" ++ ⟨#[c]⟩ ++ "d"), D.str ⟨#[c]⟩]) (n := n.fdiv 8610) (L := 4) rfl (by omega)
    have bx : BP (.tup [.str "name", x]) := by
      simp only [List.mem_cons, List.not_mem_nil, or_false] at hx
      rcases hx with rfl | rfl | rfl | rfl
      · exact bp_name (app_mem.mpr (.inr m1)) hn (by rw [app_len, la, l1]; decide)
      · exact bp_name (app_mem.mpr (.inl m1)) hn (by rw [app_len, lb, l1]; decide)
      · exact bp_name (app_mem.mpr (.inl (app_mem.mpr (.inr m1)))) hn (by rw [app_len, app_len, lc, ld, l1]; decide)
      · exact bp_name m1 hn (by rw [l1]; decide)
    simp [bin_addl, sizeLine_eq, div_s, bin_mod, c1, ex, bin_adds, app_len, l1, la, lb, lc, ld, exx]
    exact ret_self (bx.2.2 _) ⟨_, rfl, bx⟩
  · simp [bin_addl, sizeLine_eq, div_s, bin_mod, c1]
    rw [wp_then]
    have key : ∀ x, BP x → ∃ r', retV false h (.d x) h = .ok r' h ∧ ∃ d, r' = .d d ∧ BP d := fun x b => ret_self (r := .d x) (b.2.2 _) ⟨x, rfl, b⟩
    refine wp_ret_at rfl (by omega) fun x hx => key x ?_
    revert x
    simp only [List.forall_mem_cons, List.not_mem_nil, false_implies, implies_true, and_true]
    repeat' apply And.intro
    all_goals first
      | exact bpC (by decide +kernel) (by decide +kernel) (fun n => by simp)
      | exact bpC rfl (by simp [gd, pf.1]; all_goals decide +kernel) (fun n => by simp [pf.2 n])
      | exact bpC (by rw [sides2 (fun z => absurd z.1 (by decide +kernel)) (fun z => absurd z.1 (by decide +kernel))]; rfl) (by simp [gd, pf.1]; all_goals decide +kernel) (fun n => by simp [pf.2 n])
      | exact bpC (by rw [sides3 (by decide +kernel)]; rfl) (by simp [gd, pf.1]; all_goals decide +kernel) (fun n => by simp [pf.2 n])
      | exact ⟨bad3 w_plus (.inr rfl) (.none rfl), by simp [gd, pf.1]; all_goals decide +kernel, fun n => by simp [pf.2 n]⟩
      | exact ⟨bad3 w_plus (.inl rfl) (.none rfl), by decide +kernel, fun n => by simp⟩
end Tc.K34

namespace Tc.K34
open PySem L2
theorem mem_nn (h : Sto) (w : Str) : memv h (.str w) (.tup [.str "name", .str "number"]) = some (decide (w = "name") || decide (w = "number")) := by
  rw [mem_stup, if_pos (by rfl)]
  have e : ∀ a b : Str, (a == b) = decide (b = a) := fun a b => by
    by_cases h : b = a
    · subst h; simp
    · have h' : a ≠ b := fun z => h z.symm
      simp [h, h']
  simp only [L2.inV, D.toV, List.map_cons, List.map_nil, List.any_cons, List.any_nil, L2.eqV, Bool.or_false, e]
theorem wds_no {w : Str} (hw : w ∈ WDS) : w ≠ "name" ∧ w ≠ "number" := by
  have z : ∀ w ∈ WDS, w ≠ "name" ∧ w ≠ "number" := by decide +kernel
  exact z w hw
theorem f_spoiled (h : Sto) {d : D} {m : Nat} (hd : Fm d m) : ∀ (k : Nat) (n : Int), ∃ r, callF P (k + m + 1) "_law_spoiled" [d, .int n] h = some (.ok r h) ∧ ∃ x, r = .d x ∧ BP x := by
  induction hd with
  | @name s hs =>
    intro k n
    obtain ⟨r, e, x, rfl, bx⟩ := f_odd k h (n.fdiv 4) (.name hs)
    rw [callF_eq (d := p__law_spoiled.d) c__law_spoiled.lk rfl]
    apply fin_wp
    simp only [p__law_spoiled, b__law_spoiled, env0_cons, env0_nil, env0_zero]
    simp [mem_nn, div_s, e]
    exact ret_self (bx.2.2 _) ⟨_, rfl, bx⟩
  | @num a b hs =>
    intro k n
    obtain ⟨r, e, x, rfl, bx⟩ := f_odd k h (n.fdiv 4) (.num hs)
    rw [callF_eq (d := p__law_spoiled.d) c__law_spoiled.lk rfl]
    apply fin_wp
    simp only [p__law_spoiled, b__law_spoiled, env0_cons, env0_nil, env0_zero]
    simp [mem_nn, div_s, e]
    exact ret_self (bx.2.2 _) ⟨_, rfl, bx⟩
  | @two w a b n1 n2 hw ha hb ia ib =>
    intro k n
    obtain ⟨r, e, x, rfl, bx⟩ := f_odd (k + n1 + n2) h (n.fdiv 4) (.two hw ha hb)
    obtain ⟨ra, ea, xa, rfl, bxa⟩ := ia (k + n2) (n.fdiv 8)
    obtain ⟨rb, eb, xb, rfl, bxb⟩ := ib (k + n1) (n.fdiv 8)
    have lv : k + (n1 + n2 + 1) = k + n1 + n2 + 1 := by omega
    have la : k + n2 + n1 + 1 = k + n1 + n2 + 1 := by omega
    have lb : k + n1 + n2 + 1 = k + n1 + n2 + 1 := rfl
    rw [la] at ea
    rw [lv, callF_eq (d := p__law_spoiled.d) c__law_spoiled.lk rfl]
    apply fin_wp
    simp only [p__law_spoiled, b__law_spoiled, env0_cons, env0_nil, env0_zero]
    have nw := wds_no hw
    have pa := ha.pu
    have pb := hb.pu
    by_cases c1 : 0 < n.fmod 4
    · have s0 := Int.fmod_nonneg_of_pos (n.fdiv 4) (b := 2) (by omega)
      have s1 := Int.fmod_lt_of_pos (n.fdiv 4) (b := 2) (by omega)
      rcases (by omega : (n.fdiv 4).fmod 2 = 0 ∨ (n.fdiv 4).fmod 2 = 1) with c2 | c2
      · simp [mem_nn, nw.1, nw.2, div_s, bin_mod, c1, c2, ea]
        have bb : BP (.tup [.str w, xa, b]) := ⟨bad3 hw (.inl rfl) bxa.1, by simp [wds_len hw, bxa.2.1, pb.1], fun n => by simp [bxa.2.2 n, pb.2 n]⟩
        exact ret_self (r := .d _) (bb.2.2 _) ⟨_, rfl, bb⟩
      · simp [mem_nn, nw.1, nw.2, div_s, bin_mod, c1, c2, eb]
        have bb : BP (.tup [.str w, a, xb]) := ⟨bad3 hw (.inr rfl) bxb.1, by simp [wds_len hw, bxb.2.1, pa.1], fun n => by simp [bxb.2.2 n, pa.2 n]⟩
        exact ret_self (r := .d _) (bb.2.2 _) ⟨_, rfl, bb⟩
    · simp [mem_nn, nw.1, nw.2, div_s, bin_mod, c1, e]
      exact ret_self (r := .d _) (bx.2.2 _) ⟨_, rfl, bx⟩
theorem f_row (k : Nat) (h : Sto) (n : Nat) (hn : n ≤ 100000) (dp : Bool) : ∃ r, callF P (k + 1) "_law_row" [.int n, .bl dp] h = some (.ok r h) ∧ ∃ d, r = .d d ∧ Fm d (2 * n + 1) := by
  rw [callF_eq (d := p__law_row.d) c__law_row.lk rfl]
  apply fin_wp
  simp only [p__law_row, b__law_row, env0_cons, env0_nil, env0_zero]
  simp [rng1 (n := n) (i := (n : Int)) rfl (by omega)]
  rw [wp_then]
  refine wp_range (fun i e h1 => ∃ (d : D) (c3 : Option D), e = [some (.int n), some (.bl dp), some d, c3] ∧ h1 = h ∧ Fm d (2 * i + 1)) ?_ ?_ ?_
  · exact ⟨_, _, rfl, rfl, .name (by decide +kernel)⟩
  · rintro j hj e h1 ⟨d, c3, rfl, rfl, hd⟩
    have nb : Fm (.tup [.str "name", .str "b"]) 1 := .name (by decide +kernel)
    have nn : Fm (.tup [.str "number", .tup [.int 1, .int 2]]) 1 := .num (by decide +kernel)
    have f1 : Fm (.tup [.str "plus", d, .tup [.str "name", .str "b"]]) (2 * (j + 1) + 1) := by
      have z := Fm.two w_plus hd nb
      rw [show 2 * j + 1 + 1 + 1 = 2 * (j + 1) + 1 from by omega] at z
      exact z
    have f2 : Fm (.tup [.str "over", .tup [.str "number", .tup [.int 1, .int 2]], d]) (2 * (j + 1) + 1) := by
      have z := Fm.two (w := "over") (by decide +kernel) nn hd
      rw [show 1 + (2 * j + 1) + 1 = 2 * (j + 1) + 1 from by omega] at z
      exact z
    by_cases c1 : (j : Int).fmod 2 = 0
    · simp [bin_mod, c1, f1]
    · cases dp
      · simp [bin_mod, c1, f2]
      · simp [bin_mod, c1, f1]
  · rintro e h1 ⟨d, c3, rfl, rfl, hd⟩
    simp
    exact ret_self (r := .d _) (hd.pu.2 _) ⟨_, rfl, hd⟩
end Tc.K34

namespace Tc.K34
open PySem L2
theorem rng3 {a b c : Int} {n : Nat} {h : Sto} (hc : c ≠ 0 ∧ c.natAbs < 1073741824) (hs : Builtin.Range.small a b c = true) (hn : Builtin.Range.rangeSize a b c = n) : rngI3 (.int a) (.int b) (.int c) h = some (.ok ((List.range n).map fun (k : Nat) => .int (a + k * c)) none h) := by
  rw [rngI3, if_pos (show rng3Ok a b c from ⟨hc.1, hc.2, hs, by omega⟩), hn]
  rfl
theorem all_v : ∀ v ∈ List.range 64, 0 ≤ Builtin.Range.rangeSize 2 (v : Int) 9 ∧ Builtin.Range.rangeSize 2 (v : Int) 9 ≤ 7 ∧ Builtin.Range.small 2 (v : Int) 9 = true := by decide +kernel
theorem row_is (k : Nat) (h : Sto) (n : Nat) (hn : n ≤ 100000) (dp : Bool) : ∃ d, callF P (k + 1) "_law_row" [.int n, .bl dp] h = some (.ok (.d d) h) ∧ Fm d (2 * n + 1) := by
  obtain ⟨r, e, d, rfl, hd⟩ := f_row k h n hn dp
  exact ⟨d, e, hd⟩
theorem fm_is (k : Nat) (h : Sto) {d : D} {n : Nat} (hd : Fm d n) : callF P (k + 5) "is_formula" [d] h = some (.ok (.d (.bl (decide (n ≤ 60)))) h) := by
  rw [f_is_formula k h hd.pu, isF_fm hd]
theorem law_holds : ∀ ns : List Int, ns.length ≤ 63 → ∃ h', callF (prog L csts fun _ _ => false) 190 "law" [.fz (ns.map D.int)] [] = some (.ok (.d (.bl true)) h') := by
  intro ns hns
  suffices h : ∃ r, callF P (189 + 1) "law" [scr ns] [] = some (.ok r []) ∧ r = .d (.bl true) by
    obtain ⟨r, e, rfl⟩ := h
    exact ⟨[], e⟩
  rw [callF_eq (d := p_law.d) c_law.lk rfl]
  apply fin_wp
  simp only [p_law, b_law, env0_cons, env0_nil, env0_zero]
  obtain ⟨n1, hn1⟩ := f_draw 187 [] ns 1
  obtain ⟨r, e, l, rfl, l4, m, m1, m8, hl⟩ := f_names 188 [] n1
  obtain ⟨v, hv⟩ : ∃ v : Nat, max 3 (min (ns.length : Int) 63) = v := ⟨(max 3 (min (ns.length : Int) 63)).toNat, by omega⟩
  obtain ⟨v0, v7, vs⟩ := all_v v (by simp; omega)
  obtain ⟨sz, hsz⟩ : ∃ sz : Nat, Builtin.Range.rangeSize 2 (max 3 (min (ns.length : Int) 63)) 9 = sz := ⟨(Builtin.Range.rangeSize 2 (v : Int) 9).toNat, by rw [hv]; omega⟩
  have hsz7 : sz ≤ 7 := by rw [hv] at hsz; omega
  have hsm : Builtin.Range.small 2 (max 3 (min (ns.length : Int) 63)) 9 = true := by rw [hv]; exact vs
  simp at hn1
  simp [hn1, e, rng3 (a := 2) (b := max 3 (min (ns.length : Int) 63)) (c := 9) (n := sz) (by omega) hsm hsz]
  rw [wp_then]
  refine wp_range (fun i e h1 => ∃ (c2 c3 c4 : Option D), e = [some (scr ns), some (.lst l), c2, c3, c4, none, none] ∧ h1 = []) ?_ ?_ ?_
  · exact ⟨_, _, _, rfl, rfl⟩
  · rintro j hj e1 h1 ⟨c2, c3, c4, rfl, rfl⟩
    obtain ⟨r, eg, st, rfl, hst⟩ := f_grown 186 [] ns hns (2 + j * 9) (2 + j * 9 + 30) (by omega) (by omega) l4 m1 m8 hl
    obtain ⟨nd, hnd⟩ := f_draw 187 [] ns (2 + j * 9)
    simp at eg hnd
    simp [eg]
    rw [wp_then]
    refine wp_for (fun i e h1 => ∃ (c3 c4 : Option D), e = [some (scr ns), some (.lst l), some (.int (2 + j * 9)), c3, c4, none, none] ∧ h1 = []) (i := 0) ?_ ?_ ?_
    · exact ⟨_, _, rfl, rfl⟩
    · rintro t x hx e1 h1 ⟨c3, c4, rfl, rfl⟩
      obtain ⟨f, m, rfl, hf, hm⟩ := hst x (List.mem_of_getElem? hx)
      obtain ⟨r, es, y, rfl, by_⟩ := f_spoiled [] hf (188 - m) (nd.fdiv 7)
      rw [show 188 - m + m + 1 = 189 from by omega] at es
      have i1 := fm_is 184 [] hf
      have i2 := f_is_formula 184 [] by_.2
      rw [isF_bad 60 [y] y (by simp) by_.1] at i2
      simp [i1, hm, hnd, div_s, es, i2]
    · rintro e1 h1 ⟨c3, c4, rfl, rfl⟩
      simp
  · rintro e1 h1 ⟨c2, c3, c4, rfl, rfl⟩
    obtain ⟨d29, e29, f29⟩ := row_is 188 [] 29 (by omega) false
    obtain ⟨d30, e30, f30⟩ := row_is 188 [] 30 (by omega) false
    obtain ⟨d14, e14, f14⟩ := row_is 188 [] 14 (by omega) false
    obtain ⟨d15, e15, f15⟩ := row_is 188 [] 15 (by omega) false
    obtain ⟨t29, g29, p29⟩ := row_is 188 [] 29 (by omega) true
    obtain ⟨t200, g200, p200⟩ := row_is 188 [] 200 (by omega) true
    obtain ⟨t3000, g3000, p3000⟩ := row_is 188 [] 3000 (by omega) true
    have w_times : ("times" : Str) ∈ WDS := by decide +kernel
    have a1 := fm_is 184 [] f29
    have a2 := fm_is 184 [] f30
    have a3 := fm_is 184 [] (Fm.two w_times f14 f14)
    have a4 := fm_is 184 [] (Fm.two w_times f15 f15)
    have a5 := fm_is 184 [] p29
    have a6 := fm_is 184 [] p200
    have a7 := fm_is 184 [] p3000
    simp at e29 e30 e14 e15 g29 g200 g3000 a1 a2 a3 a4 a5 a6 a7
    simp [e29, e30, e14, e15, g29, g200, g3000, a1, a2, a3, a4, a5, a6, a7]
    exact retV_self (r := .d (.bl true)) (h := []) (by simp)
end Tc.K34

open PySem PySem.W PyProof.Rows Tc
set_option maxRecDepth 100000 in
set_option maxHeartbeats 0 in
theorem PySem.Challenge.cw_threadchart_k34_formulas_holds : PySem.Challenge.rw_threadchart_k34_formulas.Holds := by
  w_on; o_law; k_head; (case hw => w_witness2)
  k_fill
  refine Tc.walk (l := PySem.Challenge.rw_threadchart_k34_formulas) (L := Tc.K34.L) (csts := Tc.K34.csts) (cs := Tc.K34.cs) (bl := Tc.K34.bl) (subs := fun _ _ => false) (k := 190) (e := Tc.K34.p_law) (x := "_law_script") (ca := fun _ _ => none) rfl rfl ⟨rfl, by decide, by decide⟩ rfl (by unfold Tc.K34.L; simp) rfl Tc.K34.chk Tc.K34.law_holds (fun w h Y => PySem.W.kIn_of Y) ?F
  case F =>
    intro w mg fa h KX G hmg
    refine' stdK_then KX "is_whole" "is_whole" "is_whole" (K34.top 1) ?a ?l ?c ?k fun h_is_whole => ?_
    (case a => k_is); (case l => k_is); (case c => k_is); (case k => k_is)
    refine' stdK_then KX "divisor" "divisor" "divisor" (K34.top 2) ?a ?l ?c ?k fun h_divisor => ?_
    (case a => k_is); (case l => k_is); (case c => k_is); (case k => k_is)
    refine' stdK_then KX "is_fraction" "is_fraction" "is_fraction" (K34.top 3) ?a ?l ?c ?k fun h_is_fraction => ?_
    (case a => k_is); (case l => k_is); (case c => k_is); (case k => k_is)
    refine' stdK_then KX "is_name" "is_name" "is_name" (K34.top 8) ?a ?l ?c ?k fun h_is_name => ?_
    (case a => k_is); (case l => k_is); (case c => k_is); (case k => k_is)
    refine' stdK_then KX "is_leaf" "is_leaf" "is_leaf" (K34.top 9) ?a ?l ?c ?k fun h_is_leaf => ?_
    (case a => k_is); (case l => k_is); (case c => k_is); (case k => k_is)
    refine' stdK_then KX "sides_of" "sides_of" "sides_of" (K34.top 10) ?a ?l ?c ?k fun h_sides_of => ?_
    (case a => k_is); (case l => k_is); (case c => k_is); (case k => k_is)
    refine' stdK_then KX "is_formula" "is_formula" "is_formula" (K34.top 11) ?a ?l ?c ?k fun h_is_formula => ?_
    (case a => k_is); (case l => k_is); (case c => k_is); (case k => k_is)
    refine' stdK_then KX "_law_cell_at" "_law_cell_at" "_law_cell_at" (K34.top 13) ?a ?l ?c ?k fun h__law_cell_at => ?_
    (case a => k_is); (case l => k_is); (case c => k_is); (case k => k_is)
    refine' stdK_then KX "_law_draw" "_law_draw" "_law_draw" (K34.top 14) ?a ?l ?c ?k fun h__law_draw => ?_
    (case a => k_is); (case l => k_is); (case c => k_is); (case k => k_is)
    refine' stdK_then KX "_law_lowest" "_law_lowest" "_law_lowest" (K34.top 15) ?a ?l ?c ?k fun h__law_lowest => ?_
    (case a => k_is); (case l => k_is); (case c => k_is); (case k => k_is)
    refine' stdK_then KX "_law_names" "_law_names" "_law_names" (K34.top 16) ?a ?l ?c ?k fun h__law_names => ?_
    (case a => k_is); (case l => k_is); (case c => k_is); (case k => k_is)
    refine' stdK_then KX "_law_leaf" "_law_leaf" "_law_leaf" (K34.top 17) ?a ?l ?c ?k fun h__law_leaf => ?_
    (case a => k_is); (case l => k_is); (case c => k_is); (case k => k_is)
    refine' stdK_then KX "_law_grown" "_law_grown" "_law_grown" (K34.top 18) ?a ?l ?c ?k fun h__law_grown => ?_
    (case a => k_is); (case l => k_is); (case c => k_is); (case k => k_is)
    refine' stdK_then KX "_law_odd" "_law_odd" "_law_odd" (K34.top 19) ?a ?l ?c ?k fun h__law_odd => ?_
    (case a => k_is); (case l => k_is); (case c => k_is); (case k => k_is)
    refine' stdK_then KX "_law_spoiled" "_law_spoiled" "_law_spoiled" (K34.top 20) ?a ?l ?c ?k fun h__law_spoiled => ?_
    (case a => k_is); (case l => k_is); (case c => k_is); (case k => k_is)
    refine' stdK_then KX "_law_row" "_law_row" "_law_row" (K34.top 21) ?a ?l ?c ?k fun h__law_row => ?_
    (case a => k_is); (case l => k_is); (case c => k_is); (case k => k_is)
    refine' stdK_then KX "law" "law" "law" (K34.top 22) ?a ?l ?c ?k fun h_law => ?_
    (case a => k_is); (case l => k_is); (case c => k_is); (case k => k_is)
    refine' z_then KX "isinstance" ?z fun z_isinstance => ?_
    (case z => k_is)
    refine' z_then KX "int" ?z fun z_int => ?_
    (case z => k_is)
    refine' z_then KX "bool" ?z fun z_bool => ?_
    (case z => k_is)
    refine' z_then KX "abs" ?z fun z_abs => ?_
    (case z => k_is)
    refine' z_then KX "tuple" ?z fun z_tuple => ?_
    (case z => k_is)
    refine' z_then KX "len" ?z fun z_len => ?_
    (case z => k_is)
    refine' z_then KX "str" ?z fun z_str => ?_
    (case z => k_is)
    refine' z_then KX "all" ?z fun z_all => ?_
    (case z => k_is)
    refine' z_then KX "max" ?z fun z_max => ?_
    (case z => k_is)
    refine' z_then KX "range" ?z fun z_range => ?_
    (case z => k_is)
    refine' z_then KX "min" ?z fun z_min => ?_
    (case z => k_is)
    refine' cst_then KX "LETTERS" (.str "abcdefghijklmnopqrstuvwxyz") ?a ?c fun k_LETTERS => ?_
    (case a => k_is); (case c => exact CsR.str _ _ (by decide +kernel))
    refine' cst_then KX "WORDS" (.tup [(.str "plus"), (.str "minus"), (.str "times"), (.str "over")]) ?a ?c fun k_WORDS => ?_
    (case a => k_is); (case c => refine' CsR.tup ?l ?z ?v; (case l => k_is); (case z => decide); (case v => refine' (Paired.cons ?c0 (Paired.cons ?c1 (Paired.cons ?c2 (Paired.cons ?c3 Paired.nil)))); (case c0 => exact CsR.str _ _ (by decide +kernel)); (case c1 => exact CsR.str _ _ (by decide +kernel)); (case c2 => exact CsR.str _ _ (by decide +kernel)); (case c3 => exact CsR.str _ _ (by decide +kernel))))
    refine' cst_then KX "MOST_PARTS" (.int (60)) ?a ?c fun k_MOST_PARTS => ?_
    (case a => k_is); (case c => exact CsR.int _ _)
    refine ⟨?_, glo_of KX G ?_ rfl ?_⟩
    · unfold K34.L; simp only [List.forall_mem_cons, List.not_mem_nil, false_implies, implies_true, and_true]
      exact ⟨h_is_whole, h_divisor, h_is_fraction, h_is_name, h_is_leaf, h_sides_of, h_is_formula, h__law_cell_at, h__law_draw, h__law_lowest, h__law_names, h__law_leaf, h__law_grown, h__law_odd, h__law_spoiled, h__law_row, h_law⟩
    · unfold K34.csts; simp only [List.forall_mem_cons, List.not_mem_nil, false_implies, implies_true, and_true]
      exact ⟨k_LETTERS, k_WORDS, k_MOST_PARTS⟩
    · unfold K34.bl; simp only [List.forall_mem_cons, List.not_mem_nil, false_implies, implies_true, and_true]
      exact ⟨z_isinstance, z_int, z_bool, z_abs, z_tuple, z_len, z_str, z_all, z_max, z_range, z_min⟩
