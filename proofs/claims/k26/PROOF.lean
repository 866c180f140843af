import PyProof.Rows.All
import Wide.All
import OpenK.AllK
import Wide.FinOn
import KE.SortData
import HandS.Base
import HandS.Call
import HandS.List
import HandS.Comp
import HandS.Ends
import HandS.Dict
import HandS.Iter
import HandS.Exc
import HandS.Words
import HandS.WordsExc
import HandS.TupAny
import HandS.Deep
import HandS.TupMul
import HandS.Conv
import KE.SortLaws
import KE.SortUse
import PyProof.ReprRoads
import PyProof.StrLawsRepr
import PyProof.FitsInt
import HandS.Flow
import HandS.Zip
import KE.GoesMore
import HandS.Style
import HandS.SetFor
import HandS.Defaults
import HandS.More
import HandS.HeadEnd
import KE.KStateDown
import Lean
import HandS.Head0
import HandS.Head1
import HandS.Head2
import HandS.HeadHook1
import HandS.HeadHook2
import PySem.Challenge.RW_freetokens_k26_effects_and_weights_of_ru
set_option Elab.async false
set_option linter.all false
set_option maxRecDepth 100000
set_option maxHeartbeats 0
/-! Lt: a small value semantics of the subset of Python that the program and its laws are written in. -/
namespace Lt
open PySem

/-- pure data; a list or a dict is its content; src: the draws' source -/
inductive D where
  | non | bl (b : Bool) | int (i : Int) | str (x : Str) | tup (l : List D) | lst (l : List D) | dct (t : Bool) (l : List (D × D)) | src

/-- the source's state -/
structure Src where
  cells : List Int
  left : Int
  mixed : Int
  turn : Int

structure Exc where
  cls : Nat
  d : D

inductive Res (α : Type) where
  | ok (a : α) (s : Src)
  | ex (e : Exc) (s : Src)
  | no

def Res.bind {α β : Type} (r : Res α) (f : α → Src → Res β) : Res β := match r with
  | .ok a s => f a s
  | .ex e s => .ex e s
  | .no => .no
def Res.sat {α : Type} (r : Res α) (Q : α → Src → Prop) (E : Exc → Src → Prop) : Prop := match r with
  | .ok a s => Q a s
  | .ex e s => E e s
  | .no => False
def ofO {α : Type} (o : Option α) (s : Src) : Res α := match o with
  | some a => .ok a s
  | none => .no

/-! ### pure operations -/
def big : Nat := 1000000

mutual
def D.toP : D → PyData
  | .non => .none
  | .bl b => .bool b
  | .int i => .int i
  | .str x => .str x
  | .tup l => .tuple (D.toPs l)
  | .lst l => .list (D.toPs l)
  | .dct _ l => .dict (D.toPk l)
  | .src => .none
def D.toPs : List D → List PyData
  | [] => []
  | d :: l => d.toP :: D.toPs l
def D.toPk : List (D × D) → List (PyData × PyData)
  | [] => []
  | (k, v) :: l => (k.toP, v.toP) :: D.toPk l
end

mutual
/-- == -/
def D.eq : D → D → Bool
  | .non, .non => true
  | .bl a, .bl b => a == b
  | .bl a, .int j => decide ((if a then 1 else 0) = j)
  | .int i, .bl b => decide (i = (if b then 1 else 0))
  | .int i, .int j => decide (i = j)
  | .str x, .str y => decide (x = y)
  | .tup l, .tup m => D.eqL l m
  | .lst l, .lst m => D.eqL l m
  | _, _ => false
def D.eqL : List D → List D → Bool
  | [], [] => true
  | x :: xs, y :: ys => D.eq x y && D.eqL xs ys
  | _, _ => false
end

/-- plain data (no dict, no source) of that depth at most -/
def D.ok : Nat → D → Bool
  | 0, _ => false
  | n + 1, d => match d with
    | .non => true
    | .bl _ => true
    | .int _ => true
    | .str x => x.cps.all (· < 0x110000)
    | .tup l => l.all (D.ok n)
    | .lst l => l.all (D.ok n)
    | .dct _ _ => false
    | .src => false

/-- nothing in it may change: no list, no dict -/
def D.imm : Nat → D → Bool
  | 0, _ => false
  | n + 1, d => match d with
    | .tup l => l.all (D.imm n)
    | .lst _ => false
    | .dct _ _ => false
    | _ => true
/-- .. but for the k uppermost layers -/
def D.immK : Nat → D → Bool
  | 0, d => d.imm 20
  | k + 1, d => match d with
    | .lst l => l.all (D.immK k)
    | .dct _ l => l.all fun p => p.1.imm 20 && D.immK k p.2
    | d => d.imm 20

def b2i (b : Bool) : Int := if b then 1 else 0

def dAdd : D → D → Option D
  | .int a, .int b => some (.int (a + b))
  | .str a, .str b => if a.length + b.length ≤ big then some (.str (a ++ b)) else none
  | .tup a, .tup b => if a.length + b.length ≤ big then some (.tup (a ++ b)) else none
  | .lst a, .lst b => if a.length + b.length ≤ big then some (.lst (a ++ b)) else none
  | .int a, .bl b => some (.int (a + b2i b))
  | _, _ => none
def dSub : D → D → Option D
  | .int a, .int b => some (.int (a - b))
  | _, _ => none
def small64 (a : Int) : Bool := decide (a.natAbs < 2 ^ 64)
def repL {α : Type} (l : List α) (k : Int) : List α := (List.replicate k.toNat l).flatten
def dMul : D → D → Option D
  | .int a, .int b => if small64 a || small64 b then some (.int (a * b)) else none
  | .tup l, .int k => if decide (1 ≤ k) && decide (k ≤ 1000) && !l.isEmpty && decide (l.length ≤ 1000) then some (.tup (repL l k)) else none
  | .lst l, .int k => if k.natAbs ≤ big && decide (l.length * k.toNat ≤ big) then some (.lst (repL l k)) else none
  | _, _ => none
def small30 (a : Int) : Bool := decide (a ≠ 0) && decide (a.natAbs < 2 ^ 30)
def dFdiv : D → D → Option D
  | .int a, .int b => if small30 b then some (.int (a.fdiv b)) else none
  | _, _ => none
def dMod : D → D → Option D
  | .int a, .int b => if b = 0 then none else some (.int (a.fmod b))
  | _, _ => none
def dBin : Operator → D → D → Option D
  | .Add => dAdd
  | .Sub => dSub
  | .Mult => dMul
  | .FloorDiv => dFdiv
  | .Mod => dMod
  | _ => fun _ _ => none
def dNeg : D → Option D
  | .int a => some (.int (-a))
  | _ => none

def D.isNon : D → Bool
  | .non => true
  | _ => false
def oks (x y : D) : Bool := x.ok 60 && y.ok 60
/-- the scalars that == tells apart by themselves -/
def scalD : D → D → Bool
  | .non, .non => true | .non, .int _ => true | .int _, .non => true | .non, .bl _ => true | .bl _, .non => true | .non, .str _ => true | .str _, .non => true
  | .int _, .int _ => true | .bl _, .bl _ => true | .str _, .str _ => true
  | .int _, .str _ => true | .str _, .int _ => true | .bl _, .str _ => true | .str _, .bl _ => true
  | _, _ => false
def dEq (x y : D) : Option Bool := if scalD x y || oks x y then some (x.eq y) else none
/-- is k among the keys -/
def hasD (kvs : List (D × D)) (k : D) : Bool := kvs.any fun p => D.eq p.1 k
def lookD (kvs : List (D × D)) (k : D) : Option D := (kvs.find? fun p => D.eq p.1 k).map (·.2)
def putD (kvs : List (D × D)) (k v : D) : List (D × D) :=
  if hasD kvs k then kvs.map fun p => if D.eq p.1 k then (p.1, v) else p else kvs ++ [(k, v)]
def D.isInt : D → Bool
  | .int _ => true
  | _ => false
/-- a key that is an int or a text -/
def D.keyA : D → Bool
  | .int _ => true
  | .str _ => true
  | _ => false
/-- .. or a tuple of such -/
def D.keyT : D → Bool
  | .tup l => l.all D.keyA
  | _ => false
/-- the sort of keys of a dict (t: tuples) -/
def D.keyOf (t : Bool) (d : D) : Bool := if t then d.keyT else d.keyA
def dIn (x y : D) : Option Bool := match y with
  | .lst l => if x.ok 50 && l.all (D.ok 50) then some (l.any fun z => D.eq z x) else none
  | .tup l => if x.ok 50 && l.all (D.ok 50) then some (l.any fun z => D.eq z x) else none
  | .dct t kvs => if x.keyOf t then some (hasD kvs x) else none
  | _ => none
def dCmp : CmpOp → D → D → Option Bool
  | .Eq, x, y => dEq x y
  | .NotEq, x, y => (dEq x y).map (!·)
  | .Lt, .int a, .int b => some (decide (a < b))
  | .LtE, .int a, .int b => some (decide (a ≤ b))
  | .Gt, .int a, .int b => some (decide (b < a))
  | .GtE, .int a, .int b => some (decide (b ≤ a))
  | .In, x, y => dIn x y
  | .NotIn, x, y => (dIn x y).map (!·)
  | .Is, x, .non => some x.isNon
  | .IsNot, x, .non => some (!x.isNon)
  | _, _, _ => none

def dTruth : D → Option Bool
  | .non => some false
  | .bl b => some b
  | .int i => some (i != 0)
  | .str x => if x.length ≤ big then some (x.length != 0) else none
  | .tup l => some !l.isEmpty
  | .lst l => some !l.isEmpty
  | _ => none

def dIdx : D → D → Option D
  | .lst l, .int i => L2.atI l i
  | .tup l, .int i => L2.atI l i
  | .dct t kvs, k => if k.keyOf t then lookD kvs k else none
  | _, _ => none
def cut {α : Type} (xs : List α) (lo hi : Option Int) : List α := (xs.drop (HT.sIx xs.length 0 lo)).take (HT.sIx xs.length xs.length hi - HT.sIx xs.length 0 lo)
def dSlice (x : D) (lo hi : Option Int) : Option D := match x with
  | .lst l => some (.lst (cut l lo hi))
  | .tup l => some (.tup (cut l lo hi))
  | _ => none

/-! ### built-ins: the arguments, what comes -/
abbrev Bi := List D → Option D
def D.items : D → Option (List D)
  | .lst l => some l
  | .tup l => some l
  | _ => none
def bLen : Bi
  | [.lst l] => some (.int l.length)
  | [.tup l] => some (.int l.length)
  | [.str x] => if x.length ≤ big then some (.int x.length) else none
  | _ => none
def bTuple : Bi
  | [.lst l] => some (.tup l)
  | [.tup l] => some (.tup l)
  | _ => none
def bList : Bi
  | [.lst l] => some (.lst l)
  | [.tup l] => some (.lst l)
  | [.dct _ kvs] => some (.lst (kvs.map (·.1)))
  | _ => none
def D.ints : List D → Option (List Int)
  | [] => some []
  | .int i :: l => (D.ints l).map (i :: ·)
  | _ => none
def bSum : Bi
  | [.lst l] => (D.ints l).map fun ns => .int ns.sum
  | _ => none
/-- the truth of numbers, truth values, None -/
def D.trus : List D → Option (List Bool)
  | [] => some []
  | .bl b :: l => (D.trus l).map (b :: ·)
  | .int i :: l => (D.trus l).map ((i != 0) :: ·)
  | .non :: l => (D.trus l).map (false :: ·)
  | _ => none
def bAll : Bi
  | [.lst l] => (D.trus l).map fun bs => .bl (bs.all id)
  | [.tup l] => (D.trus l).map fun bs => .bl (bs.all id)
  | _ => none
def bAny : Bi
  | [.lst l] => (D.trus l).map fun bs => .bl (bs.any id)
  | [.tup l] => (D.trus l).map fun bs => .bl (bs.any id)
  | _ => none
def bInt : Bi
  | [.int i] => some (.int i)
  | [.bl b] => some (.int (b2i b))
  | _ => none
def bAbs : Bi
  | [.int i] => some (.int (if i < 0 then -i else i))
  | _ => none
def bMax : Bi
  | [.int i, .int j] => some (.int (if j > i then j else i))
  | _ => none
def bMin : Bi
  | [.int i, .int j] => some (.int (if j < i then j else i))
  | _ => none
def D.isIntT : D → Bool
  | .tup (x :: l) => x.isInt && l.all D.isInt
  | _ => false
def sortable (l : List D) : Bool := l.all D.isInt || l.all D.isIntT
def dLe (a b : D) : Bool := PySem.W.dataLe false D.toP a b
def bSorted : Bi
  | [.lst l] => if sortable l then some (.lst (l.mergeSort dLe)) else none
  | _ => none
mutual
/-- a bound of the length of repr -/
def D.wt : D → Nat
  | .int i => i.natAbs.log2 + 4
  | .str x => 10 * x.length + 10
  | .tup l => D.wtL l + 5
  | .lst l => D.wtL l + 5
  | .dct _ l => D.wtK l + 5
  | _ => 10
def D.wtL : List D → Nat
  | [] => 0
  | d :: l => d.wt + 2 + D.wtL l
def D.wtK : List (D × D) → Nat
  | [] => 0
  | (k, v) :: l => k.wt + v.wt + 4 + D.wtK l
end
mutual
def D.intsOk : D → Bool
  | .int i => decide (i.natAbs.log2 < 1900)
  | .tup l => D.intsOkL l
  | .lst l => D.intsOkL l
  | _ => true
def D.intsOkL : List D → Bool
  | [] => true
  | d :: l => d.intsOk && D.intsOkL l
end
def bRepr : Bi
  | [d] => if d.ok 60 && d.intsOk && decide (d.wt ≤ big) then some (.str d.toP.shown) else none
  | _ => none

/-- l.count(k), numbers -/
def bCount : Bi
  | [.lst l, .int k] => (D.ints l).map fun ns => .int (ns.count k : Nat)
  | _ => none

/-! ### expressions -/
abbrev Env := List (Option D)
structure Rd where
  cl : Nat → List D → Src → Res D
abbrev EM := Rd → Env → Src → Res D
abbrev TM := Rd → Env → Src → Res Bool
abbrev LM := Rd → Env → Src → Res (List D)

def eVar (i : Nat) : EM := fun _ env s => match env[i]? with
  | some (some d) => .ok d s
  | _ => .no
def eC (d : D) : EM := fun _ _ s => .ok d s
def eBin (op : Operator) (a b : EM) : EM := fun R env s => (a R env s).bind fun x s => (b R env s).bind fun y s => ofO (dBin op x y) s
def eNeg (a : EM) : EM := fun R env s => (a R env s).bind fun x s => ofO (dNeg x) s
def eCmp (op : CmpOp) (a b : EM) : EM := fun R env s => (a R env s).bind fun x s => (b R env s).bind fun y s => ofO ((dCmp op x y).map D.bl) s
def eIf (t : TM) (a b : EM) : EM := fun R env s => (t R env s).bind fun c s => if c = true then a R env s else b R env s
def eAnd (a b : EM) : EM := fun R env s => (a R env s).bind fun x s => (ofO (dTruth x) s).bind fun k s => if k = true then b R env s else .ok x s
def eOr (a b : EM) : EM := fun R env s => (a R env s).bind fun x s => (ofO (dTruth x) s).bind fun k s => if k = true then .ok x s else b R env s
def eNot (a : EM) : EM := fun R env s => (a R env s).bind fun x s => (ofO (dTruth x) s).bind fun k s => .ok (.bl (!k)) s
def eCmp2 (op op' : CmpOp) (a b c : EM) : EM := fun R env s => (a R env s).bind fun x s => (b R env s).bind fun y s => (ofO (dCmp op x y) s).bind fun k s =>
  if k = true then (c R env s).bind fun z s => ofO ((dCmp op' y z).map D.bl) s else .ok (.bl false) s
def eNil : LM := fun _ _ s => .ok [] s
def eCons (a : EM) (r : LM) : LM := fun R env s => (a R env s).bind fun x s => (r R env s).bind fun xs s => .ok (x :: xs) s
def eTup (l : LM) : EM := fun R env s => (l R env s).bind fun xs s => .ok (.tup xs) s
def eLst (l : LM) : EM := fun R env s => (l R env s).bind fun xs s => .ok (.lst xs) s
def eDct (t : Bool) : EM := fun _ _ s => .ok (.dct t []) s
def eIdx (a b : EM) : EM := fun R env s => (a R env s).bind fun x s => (b R env s).bind fun y s => ofO (dIdx x y) s
/-- a slice's part -/
abbrev OM := Rd → Env → Src → Res (Option Int)
def oNone : OM := fun _ _ s => .ok none s
def oSome (a : EM) : OM := fun R env s => (a R env s).bind fun x s => match x with
  | .int i => .ok (some i) s
  | _ => .no
def eSlice (a : EM) (lo hi : OM) : EM := fun R env s => (a R env s).bind fun x s => (lo R env s).bind fun l s => (hi R env s).bind fun h s => ofO (dSlice x l h) s
def eCall (f : Nat) (l : LM) : EM := fun R env s => (l R env s).bind fun xs s => R.cl f xs s
def eBi (b : Bi) (l : LM) : EM := fun R env s => (l R env s).bind fun xs s => ofO (b xs) s
/-- a built-in method that changes nothing: the receiver first -/
def eMt (b : Bi) (a : EM) (l : LM) : EM := fun R env s => (a R env s).bind fun x s => (l R env s).bind fun xs s => ofO (b (x :: xs)) s

/-- a.count(e) -/
def eCnt (a e : EM) : EM := fun R env s => (a R env s).bind fun x s => match x with
  | .lst l => (e R env s).bind fun k s => ofO (bCount [.lst l, k]) s
  | _ => .no

/-! tests -/
def tB (a : EM) : TM := fun R env s => (a R env s).bind fun x s => match x with
  | .bl b => .ok b s
  | _ => .no
def tTru (a : EM) : TM := fun R env s => (a R env s).bind fun x s => ofO (dTruth x) s
def tAnd (a b : TM) : TM := fun R env s => (a R env s).bind fun c s => if c = true then b R env s else .ok false s
def tOr (a b : TM) : TM := fun R env s => (a R env s).bind fun c s => if c = true then .ok true s else b R env s
def tNot (a : TM) : TM := fun R env s => (a R env s).bind fun c s => .ok (!c) s
def tYes : TM := fun _ _ s => .ok true s
def tCmp (op : CmpOp) (a b : EM) : TM := fun R env s => (a R env s).bind fun x s => (b R env s).bind fun y s => ofO (dCmp op x y) s
def tCmp2 (op op' : CmpOp) (a b c : EM) : TM := fun R env s => (a R env s).bind fun x s => (b R env s).bind fun y s => (ofO (dCmp op x y) s).bind fun k s =>
  if k = true then (c R env s).bind fun z s => ofO (dCmp op' y z) s else .ok false s

/-! what a for walks -/
def iSeq (a : EM) : LM := fun R env s => (a R env s).bind fun x s => ofO x.items s
def rangeL (lo hi : Int) : List D := (List.range (hi - lo).toNat).map fun (i : Nat) => .int (lo + (i : Int))
def okR (a : Int) : Bool := decide (a.natAbs ≤ big)
def iRange1 (a : EM) : LM := fun R env s => (a R env s).bind fun x s => match x with
  | .int n => if okR n then .ok (rangeL 0 n) s else .no
  | _ => .no
def iRange2 (a b : EM) : LM := fun R env s => (a R env s).bind fun x s => (b R env s).bind fun y s => match x, y with
  | .int m, .int n => if okR m && okR n then .ok (rangeL m n) s else .no
  | _, _ => .no
def enumL (l : List D) : List D := (l.zipIdx).map fun p => .tup [.int (p.2 : Int), p.1]
def iEnum (a : EM) : LM := fun R env s => (a R env s).bind fun x s => ofO (x.items.map enumL) s
def zipL (l m : List D) : List D := (l.zip m).map fun p => .tup [p.1, p.2]
def iZip (a b : EM) : LM := fun R env s => (a R env s).bind fun x s => (b R env s).bind fun y s => match x, y with
  | .lst l, .lst m => .ok (zipL l m) s
  | .tup l, .tup m => .ok (zipL l m) s
  | _, _ => .no

/-- targets: a name, a tuple of names -/
inductive Pat where
  | nm (i : Nat)
  | tp (l : List Nat)
def Pat.slots : Pat → List Nat
  | .nm i => [i]
  | .tp l => l
def setAll : List Nat → List D → Env → Option Env
  | [], [], env => some env
  | i :: is, d :: ds, env => setAll is ds (env.set i (some d))
  | _, _, _ => none
def Pat.set : Pat → D → Env → Option Env
  | .nm i, d, env => some (env.set i (some d))
  | .tp is, .tup ds, env => setAll is ds env
  | _, _, _ => none

def wipeE (env : Env) : List Nat → Env
  | [] => env
  | v :: vs => (wipeE env vs).set v none
/-- no exception -/
def Res.nox {α : Type} (r : Res α) : Res α := match r with
  | .ok a s => .ok a s
  | _ => .no
/-- the turns of a comprehension -/
def lcGo (R : Rd) (env : Env) (p : Pat) (t : TM) (e : EM) : List D → Src → Res (List D)
  | [], s => .ok [] s
  | d :: ds, s => match p.set d env with
    | none => .no
    | some env' => (t R env' s).nox.bind fun c s => if c = true then (e R env' s).nox.bind fun y s => (lcGo R env p t e ds s).bind fun ys s => .ok (y :: ys) s else lcGo R env p t e ds s
def eLc (own : List Nat) (it : LM) (p : Pat) (t : TM) (e : EM) : EM := fun R env s => (it R env s).bind fun ds s => (lcGo R (wipeE env own) p t e ds s).bind fun ys s => .ok (.lst ys) s

/-! ### statements -/
inductive Out where
  | nx (env : Env)
  | rt (d : D)
  | bk (env : Env)
  | ct (env : Env)
abbrev SM := Rd → Env → Src → Res Out
def sPass : SM := fun _ env s => .ok (.nx env) s
def sSeq (a b : SM) : SM := fun R env s => (a R env s).bind fun o s => match o with
  | .nx env => b R env s
  | o => .ok o s
def sRet (e : EM) : SM := fun R env s => (e R env s).bind fun d s => .ok (.rt d) s
def sRetN : SM := fun _ env s => .ok (.rt .non) s
def sBrk : SM := fun _ env s => .ok (.bk env) s
def sCont : SM := fun _ env s => .ok (.ct env) s
/-- the names that a def changes in place are not to be seen (mask) -/
def mask (hs : List Nat) (env : Env) : Env := wipeE env hs
/-- target = e, e without the names hs -/
def sAsg (hs : List Nat) (p : Pat) (e : EM) : SM := fun R env s => (e R (mask hs env) s).bind fun d s => match p.set d env with
  | some env => .ok (.nx env) s
  | none => .no
/-- target = e, e's value new or fixed, its k uppermost layers new -/
def sAsgK (k : Nat) (p : Pat) (e : EM) : SM := fun R env s => (e R env s).bind fun d s => if d.immK k then (match p.set d env with
  | some env => .ok (.nx env) s
  | none => .no) else .no
/-- x, y = a, b stored one by one -/
def sPar (hs : List Nat) (is : List Nat) (l : LM) : SM := fun R env s => (l R (mask hs env) s).bind fun ds s => match setAll is ds env with
  | some env => .ok (.nx env) s
  | none => .no
def sIf (t : TM) (a b : SM) : SM := fun R env s => (t R env s).bind fun c s => if c = true then a R env s else b R env s
def sDrop (e : EM) : SM := fun R env s => (e R env s).bind fun _ s => .ok (.nx env) s
def forGo (R : Rd) (p : Pat) (b : SM) : List D → Env → Src → Res Out
  | [], env, s => .ok (.nx env) s
  | d :: ds, env, s => match p.set d env with
    | none => .no
    | some env => (b R env s).bind fun o s => match o with
      | .nx env => forGo R p b ds env s
      | .ct env => forGo R p b ds env s
      | .bk env => .ok (.nx env) s
      | .rt d => .ok (.rt d) s
def sFor (hs : List Nat) (it : LM) (p : Pat) (b : SM) : SM := fun R env s => (it R (mask hs env) s).bind fun ds s => forGo R p b ds env s
/-- .. over what is in a name that is changed in place (not within the loop), its items fixed -/
def sForK (it : LM) (p : Pat) (b : SM) : SM := fun R env s => (it R env s).bind fun ds s => if ds.all (D.imm 20) then forGo R p b ds env s else .no
def whGo (R : Rd) (t : TM) (b : SM) : Nat → Env → Src → Res Out
  | 0, _, _ => .no
  | n + 1, env, s => (t R env s).bind fun c s => if c = true then (b R env s).bind fun o s => (match o with
      | .nx env => whGo R t b n env s
      | .ct env => whGo R t b n env s
      | .bk env => .ok (.nx env) s
      | .rt d => .ok (.rt d) s) else .ok (.nx env) s
def sWhile (t : TM) (b : SM) : SM := fun R env s => whGo R t b big env s

/-! stores -/
/-- the list in a name -/
def lstAt (env : Env) (i : Nat) : Option (List D) := match env[i]? with
  | some (some (.lst l)) => some l
  | _ => none
/-- x.append(e) -/
def sApp (k i : Nat) (e : EM) : SM := fun R env s => match lstAt env i with
  | some l => (e R env s).bind fun d s => if d.immK k && decide (l.length < big) then .ok (.nx (env.set i (some (.lst (l ++ [d]))))) s else .no
  | none => .no
/-- x[j] = e, x a list or a dict (its values not owned) -/
def dPut (k : Nat) (x j d : D) : Option D := match x with
  | .lst l => match j with
    | .int a => (L2.ixN l.length a).map fun n => .lst (l.set n d)
    | _ => none
  | .dct t kvs => if k == 0 && j.keyOf t && decide (kvs.length < big) then some (.dct t (putD kvs j d)) else none
  | _ => none
def sPut (k i : Nat) (j e : EM) : SM := fun R env s => (e R env s).bind fun d s => match env[i]? with
  | some (some x) => (j R env s).bind fun j s => if d.immK k then (match dPut k x j d with
    | some x => .ok (.nx (env.set i (some x))) s
    | none => .no) else .no
  | _ => .no
/-- x[a][b] op= e, numbers in lists of a list -/
def lsts : D → Option (List D)
  | .lst l => some l
  | _ => none
def ints1 : D → Option Int
  | .int i => some i
  | _ => none
def iAug (op : Operator) (a b : Int) : Option Int := match op with
  | .Add => some (a + b)
  | .Sub => some (a - b)
  | _ => none
/-- a list's member of that number -/
def atD (d j : D) : Option (Nat × D) := match d, j with
  | .lst l, .int i => (L2.ixN l.length i).bind fun n => (l[n]?).map fun x => (n, x)
  | _, _ => none
def setD (d : D) (n : Nat) (x : D) : D := match d with
  | .lst l => .lst (l.set n x)
  | d => d
def sAug2 (op : Operator) (i : Nat) (a b e : EM) : SM := fun R env s => match env[i]? with
  | some (some x) => (a R env s).bind fun a s => (ofO (atD x a) s).bind fun n s => (b R env s).bind fun b s => (ofO (atD n.2 b) s).bind fun m s => (e R env s).bind fun e s =>
    (ofO ((ints1 m.2).bind fun z => (ints1 e).bind fun e => iAug op z e) s).bind fun w s => .ok (.nx (env.set i (some (setD x n.1 (setD n.2 m.1 (.int w)))))) s
  | _ => .no
/-- x[b] op= e, numbers in a list -/
def sAug1 (op : Operator) (i : Nat) (b e : EM) : SM := fun R env s => match env[i]? with
  | some (some x) => (b R env s).bind fun b s => (ofO (atD x b) s).bind fun m s => (e R env s).bind fun e s =>
    (ofO ((ints1 m.2).bind fun z => (ints1 e).bind fun e => iAug op z e) s).bind fun w s => .ok (.nx (env.set i (some (setD x m.1 (.int w))))) s
  | _ => .no
/-- x op= e, numbers -/
def sAugI (op : Operator) (i : Nat) (e : EM) : SM := fun R env s => match env[i]? with
  | some (some x) => (e R env s).bind fun e s => (ofO ((ints1 x).bind fun z => (ints1 e).bind fun e => iAug op z e) s).bind fun w s => .ok (.nx (env.set i (some (.int w)))) s
  | _ => .no

/-! ### defs -/
structure Def where
  np : Nat
  ns : Nat
  body : SM
def runDef (R : Rd) (d : Def) (xs : List D) (s : Src) : Res D :=
  if xs.length = d.np then (d.body R (xs.map some ++ List.replicate (d.ns - d.np) none) s).bind fun o s => match o with
    | .rt d => .ok d s
    | .nx _ => .ok .non s
    | _ => .no
  else .no
/-- what a def of the table is: of the text, or a given one (the draws) -/
inductive Ent where
  | df (d : Def)
  | pr (f : List D → Src → Res D)
def Ent.run (R : Rd) : Ent → List D → Src → Res D
  | .df d, xs, s => runDef R d xs s
  | .pr f, xs, s => f xs s
/-- the calls, to a depth -/
def callN (tab : Nat → Option Ent) : Nat → Nat → List D → Src → Res D
  | 0, _, _, _ => .no
  | n + 1, f, xs, s => match tab f with
    | some e => e.run ⟨callN tab n⟩ xs s
    | none => .no
end Lt

/-! Lt: what stands in the heap for a pure value, and what a reading of the layer is in its words. -/
namespace Lt
open PySem PySem.Spec PyProof.Rows L2

/-- what is fixed through a law: where the source and its cells stand, the calls, how exceptions lie -/
structure Yx where
  sa : Addr
  ca : Addr
  R : Rd
  XR : Exc → Value → Option Addr → Hp → Prop

def kD : Key → D
  | .inl i => .int i
  | .inr x => .str x

mutual
/-- v stands for d; its lists and dicts are at places of P -/
inductive Rp (sa : Addr) (P : Addr → Prop) (H : Hp) : V → D → Prop where
  | non : Rp sa P H .non .non
  | bl (b : Bool) : Rp sa P H (.bl b) (.bl b)
  | int (i : Int) : Rp sa P H (.int i) (.int i)
  | str (x : Str) : Rp sa P H (.str x) (.str x)
  | tup {a : Addr} {vs : List V} {l : List D} : H a = some (.tup vs) → RpL sa P H vs l → Rp sa P H (.ref a) (.tup l)
  | lst {a : Addr} {vs : List V} {l : List D} : P a → H a = some (.lst vs) → RpL sa P H vs l → Rp sa P H (.ref a) (.lst l)
  | dK {a : Addr} {kvs : List (Key × V)} {l : List (D × D)} : P a → H a = some (.dK kvs) → l.map (·.1) = kvs.map (fun p => kD p.1) → RpL sa P H (kvs.map (·.2)) (l.map (·.2)) → Rp sa P H (.ref a) (.dct false l)
  | dT {a : Addr} {kvs : List (List Key × V)} {l : List (D × D)} : P a → H a = some (.dT kvs) → l.map (·.1) = kvs.map (fun p => D.tup (p.1.map kD)) → RpL sa P H (kvs.map (·.2)) (l.map (·.2)) → Rp sa P H (.ref a) (.dct true l)
  | src : Rp sa P H (.ref sa) .src
inductive RpL (sa : Addr) (P : Addr → Prop) (H : Hp) : List V → List D → Prop where
  | nil : RpL sa P H [] []
  | cons {v : V} {vs : List V} {d : D} {ds : List D} : Rp sa P H v d → RpL sa P H vs ds → RpL sa P H (v :: vs) (d :: ds)
end

section
variable {sa : Addr} {P P' : Addr → Prop} {H H' : Hp}
mutual
theorem Rp.mono : ∀ {v : V} {d : D}, Rp sa P H v d → (∀ a o, P a → H a = some o → P' a ∧ H' a = some o) → (∀ a xs, H a = some (.tup xs) → H' a = some (.tup xs)) → Rp sa P' H' v d
  | _, _, .non, _, _ => .non
  | _, _, .bl b, _, _ => .bl b
  | _, _, .int i, _, _ => .int i
  | _, _, .str x, _, _ => .str x
  | _, _, .tup e r, hp, ht => .tup (ht _ _ e) (RpL.mono r hp ht)
  | _, _, .lst p e r, hp, ht => .lst (hp _ _ p e).1 (hp _ _ p e).2 (RpL.mono r hp ht)
  | _, _, .dK p e k r, hp, ht => .dK (hp _ _ p e).1 (hp _ _ p e).2 k (RpL.mono r hp ht)
  | _, _, .dT p e k r, hp, ht => .dT (hp _ _ p e).1 (hp _ _ p e).2 k (RpL.mono r hp ht)
  | _, _, .src, _, _ => .src
theorem RpL.mono : ∀ {vs : List V} {ds : List D}, RpL sa P H vs ds → (∀ a o, P a → H a = some o → P' a ∧ H' a = some o) → (∀ a xs, H a = some (.tup xs) → H' a = some (.tup xs)) → RpL sa P' H' vs ds
  | _, _, .nil, _, _ => .nil
  | _, _, .cons r rs, hp, ht => .cons (Rp.mono r hp ht) (RpL.mono rs hp ht)
end
mutual
/-- nothing that may change: any places will do -/
theorem Rp.imm {v : V} : ∀ {n : Nat} {d : D}, Rp sa P H v d → d.imm n = true → (∀ a xs, H a = some (.tup xs) → H' a = some (.tup xs)) → Rp sa P' H' v d
  | 0, d, _, hi, _ => by simp [D.imm] at hi
  | n + 1, d, h, hi, ht => by
    cases h with
    | non => exact .non
    | bl b => exact .bl b
    | int i => exact .int i
    | str x => exact .str x
    | tup e r => exact .tup (ht _ _ e) (RpL.imm (n := n) r (by simpa [D.imm] using hi) ht)
    | lst p e r => simp [D.imm] at hi
    | dK p e k r => simp [D.imm] at hi
    | dT p e k r => simp [D.imm] at hi
    | src => exact .src
theorem RpL.imm : ∀ {n : Nat} {vs : List V} {ds : List D}, RpL sa P H vs ds → (∀ d ∈ ds, d.imm n = true) → (∀ a xs, H a = some (.tup xs) → H' a = some (.tup xs)) → RpL sa P' H' vs ds
  | n, _, _, h, hi, ht => by
    cases h with
    | nil => exact .nil
    | cons r rs => exact .cons (Rp.imm (n := n) r (hi _ (by simp)) ht) (RpL.imm (n := n) rs (fun d hd => hi d (by simp [hd])) ht)
end
theorem RpL.length {vs : List V} {ds : List D} (h : RpL sa P H vs ds) : vs.length = ds.length := by
  induction ds generalizing vs with
  | nil => cases h; rfl
  | cons d ds ih => cases h with
    | cons r rs => simp [ih rs]
theorem RpL.get {vs : List V} {ds : List D} {i : Nat} {d : D} (h : RpL sa P H vs ds) (e : ds[i]? = some d) : ∃ v, vs[i]? = some v ∧ Rp sa P H v d := by
  induction ds generalizing vs i with
  | nil => simp at e
  | cons x ds ih => cases h with
    | cons r rs => cases i with
      | zero => simp at e; subst e; exact ⟨_, by simp, r⟩
      | succ i => simpa using ih rs (by simpa using e)
theorem RpL.getV {vs : List V} {ds : List D} {i : Nat} {v : V} (h : RpL sa P H vs ds) (e : vs[i]? = some v) : ∃ d, ds[i]? = some d ∧ Rp sa P H v d := by
  induction ds generalizing vs i with
  | nil => cases h; simp at e
  | cons x ds ih => cases h with
    | cons r rs => cases i with
      | zero => simp at e; subst e; exact ⟨_, by simp, r⟩
      | succ i => simpa using ih rs (by simpa using e)
theorem RpL.append {vs ws : List V} {ds es : List D} (h : RpL sa P H vs ds) (h' : RpL sa P H ws es) : RpL sa P H (vs ++ ws) (ds ++ es) := by
  induction ds generalizing vs with
  | nil => cases h; exact h'
  | cons x ds ih => cases h with
    | cons r rs => exact .cons r (ih rs)
theorem RpL.take {vs : List V} {ds : List D} (n : Nat) (h : RpL sa P H vs ds) : RpL sa P H (vs.take n) (ds.take n) := by
  induction ds generalizing vs n with
  | nil => cases h; simp; exact .nil
  | cons x ds ih => cases h with
    | cons r rs => cases n with
      | zero => exact .nil
      | succ n => exact .cons r (ih n rs)
theorem RpL.drop {vs : List V} {ds : List D} (n : Nat) (h : RpL sa P H vs ds) : RpL sa P H (vs.drop n) (ds.drop n) := by
  induction ds generalizing vs n with
  | nil => cases h; simp; exact .nil
  | cons x ds ih => cases h with
    | cons r rs => cases n with
      | zero => exact .cons r rs
      | succ n => exact ih n rs
theorem RpL.set {vs : List V} {ds : List D} {v : V} {d : D} (i : Nat) (h : RpL sa P H vs ds) (r : Rp sa P H v d) : RpL sa P H (vs.set i v) (ds.set i d) := by
  induction ds generalizing vs i with
  | nil => cases h; simp; exact .nil
  | cons x ds ih => cases h with
    | cons q rs => cases i with
      | zero => exact .cons r rs
      | succ i => exact .cons q (ih i rs)
theorem RpL.rep {vs : List V} {ds : List D} (h : RpL sa P H vs ds) : ∀ k : Nat, RpL sa P H (List.replicate k vs).flatten (List.replicate k ds).flatten
  | 0 => .nil
  | k + 1 => by
    simp only [List.replicate_succ, List.flatten_cons]
    exact h.append (RpL.rep h k)
theorem RpL.ints : ∀ {l : List D} {vs : List V} {ns : List Int}, RpL sa P H vs l → D.ints l = some ns → vs = ns.map V.int
  | [], _, ns, h, e => by
    cases h
    simp [D.ints] at e
    subst e; rfl
  | d :: l, _, ns, h, e => by
    cases h with
    | cons r rs => cases r with
      | int i =>
        simp only [D.ints, Option.map_eq_some_iff] at e
        obtain ⟨ms, e1, rfl⟩ := e
        rw [RpL.ints rs e1]; rfl
      | _ => simp [D.ints] at e
end

/-! ### heaps -/
def SrcAt (y : Yx) (H : Hp) (s : Src) : Prop :=
  H y.sa = some (.dK [(.inr "cells", .ref y.ca), (.inr "left", .int s.left), (.inr "mixed", .int s.mixed), (.inr "turn", .int s.turn)]) ∧ H y.ca = some (.lst (s.cells.map V.int))
/-- all that is tracked stays, but for the source -/
def Ext (y : Yx) (H H' : Hp) : Prop := ∀ a o, a ≠ y.sa → a ≠ y.ca → H a = some o → H' a = some o
def Pok (y : Yx) (P : Addr → Prop) : Prop := ∀ a, P a → a ≠ y.sa ∧ a ≠ y.ca
/-- P, or new since H -/
def Pn (P : Addr → Prop) (H : Hp) (a : Addr) : Prop := P a ∨ H a = none
section
variable {y : Yx} {P P' : Addr → Prop} {H H0 H1 H2 H' : Hp} {s s' : Src}
theorem SrcAt.sa (h : SrcAt y H s) : H y.sa ≠ none := by rw [h.1]; simp
theorem SrcAt.ca (h : SrcAt y H s) : H y.ca ≠ none := by rw [h.2]; simp
theorem Ext.refl : Ext y H H := fun _ _ _ _ h => h
theorem Ext.trans (a : Ext y H H1) (b : Ext y H1 H2) : Ext y H H2 := fun c o h1 h2 h => b c o h1 h2 (a c o h1 h2 h)
theorem Ext.tup (e : Ext y H H') (h : SrcAt y H s) {a : Addr} {xs : List V} (q : H a = some (.tup xs)) : H' a = some (.tup xs) := by
  refine e a _ ?_ ?_ q
  · rintro rfl; rw [h.1] at q; cases q
  · rintro rfl; rw [h.2] at q; cases q
/-- new behind an extension is new ahead of it (but for the source) -/
theorem Ext.back (e : Ext y H H') (h' : SrcAt y H' s') {a : Addr} (q : H' a = none) : H a = none := by
  cases r : H a with
  | none => rfl
  | some o =>
    have h1 : a ≠ y.sa := by rintro rfl; exact h'.sa q
    have h2 : a ≠ y.ca := by rintro rfl; exact h'.ca q
    rw [e a o h1 h2 r] at q; cases q
def Ex (H H' : Hp) : Prop := ∀ a o, H a = some o → H' a = some o
theorem Ex.ext (e : Ex H H') : Ext y H H' := fun a o _ _ h => e a o h
theorem Ex.refl : Ex H H := fun _ _ h => h
theorem Ex.trans (a : Ex H H1) (b : Ex H1 H2) : Ex H H2 := fun c o h => b c o (a c o h)
theorem Ex.new {p : Addr} {o : HO} (h : H p = none) : Ex H (upd H p o) := fun a u e => by rw [upd_ne (ne_of_none e h)]; exact e
theorem Ex.back (e : Ex H H') {a : Addr} (q : H' a = none) : H a = none := by
  cases r : H a with
  | none => rfl
  | some o => rw [e a o r] at q; cases q
theorem SrcAt.ex (h : SrcAt y H s) (e : Ex H H') : SrcAt y H' s := ⟨e _ _ h.1, e _ _ h.2⟩
theorem Pok.pn (p : Pok y P) (h : SrcAt y H s) : Pok y (Pn P H) := fun a q => by
  rcases q with q | q
  · exact p a q
  · exact ⟨by rintro rfl; exact h.sa q, by rintro rfl; exact h.ca q⟩
theorem Pok.of_pn (p : Pok y (Pn P H)) : Pok y P := fun a q => p a (.inl q)
/-- a value stays -/
theorem Rp.ext {v : V} {d : D} (h : Rp y.sa P H v d) (p : Pok y P) (hs : SrcAt y H s) (e : Ext y H H') : Rp y.sa P H' v d :=
  h.mono (fun a o q r => ⟨q, e a o (p a q).1 (p a q).2 r⟩) fun a xs q => e.tup hs q
theorem RpL.ext {v : List V} {d : List D} (h : RpL y.sa P H v d) (p : Pok y P) (hs : SrcAt y H s) (e : Ext y H H') : RpL y.sa P H' v d :=
  h.mono (fun a o q r => ⟨q, e a o (p a q).1 (p a q).2 r⟩) fun a xs q => e.tup hs q
theorem Rp.ex {sa : Addr} {v : V} {d : D} (h : Rp sa P H v d) (e : Ex H H') : Rp sa P H' v d := h.mono (fun a o q r => ⟨q, e a o r⟩) fun a xs q => e a _ q
theorem RpL.ex {sa : Addr} {v : List V} {d : List D} (h : RpL sa P H v d) (e : Ex H H') : RpL sa P H' v d := h.mono (fun a o q r => ⟨q, e a o r⟩) fun a xs q => e a _ q
theorem Rp.imp {sa : Addr} {v : V} {d : D} (h : Rp sa P H v d) (p : ∀ a, P a → P' a) : Rp sa P' H v d := h.mono (fun a o q r => ⟨p a q, r⟩) fun a xs q => q
theorem RpL.imp {sa : Addr} {v : List V} {d : List D} (h : RpL sa P H v d) (p : ∀ a, P a → P' a) : RpL sa P' H v d := h.mono (fun a o q r => ⟨p a q, r⟩) fun a xs q => q
theorem pn_pn (e : Ext y H0 H) (hs : SrcAt y H s) : ∀ a, Pn (Pn P H0) H a → Pn P H0 a := fun a q => by
  rcases q with q | q
  · exact q
  · exact .inr (e.back hs q)
end

/-! ### what is owned: the k uppermost layers -/
inductive OwL (R : V → D → List Addr → Prop) : List V → List D → List Addr → Prop where
  | nil : OwL R [] [] []
  | cons {v : V} {vs : List V} {d : D} {ds : List D} {o os : List Addr} : R v d o → OwL R vs ds os → OwL R (v :: vs) (d :: ds) (o ++ os)
def Ow (sa : Addr) (P : Addr → Prop) (H : Hp) : Nat → V → D → List Addr → Prop
  | 0, v, d, _ => Rp sa P H v d
  | k + 1, v, d, o => match d with
    | .lst l => ∃ a vs os, v = .ref a ∧ H a = some (.lst vs) ∧ OwL (Ow sa P H k) vs l os ∧ o = a :: os
    | .dct t l => (∃ a kvs os, t = false ∧ v = .ref a ∧ H a = some (.dK kvs) ∧ l.map (·.1) = kvs.map (fun p => kD p.1) ∧ OwL (Ow sa P H k) (kvs.map (·.2)) (l.map (·.2)) os ∧ o = a :: os) ∨
        ∃ a kvs os, t = true ∧ v = .ref a ∧ H a = some (.dT kvs) ∧ l.map (·.1) = kvs.map (fun p => D.tup (p.1.map kD)) ∧ OwL (Ow sa P H k) (kvs.map (·.2)) (l.map (·.2)) os ∧ o = a :: os
    | d => Rp sa P H v d
section
variable {sa : Addr} {P P' : Addr → Prop} {H H' : Hp}
theorem OwL.imp {R R' : V → D → List Addr → Prop} : ∀ {vs : List V} {ds : List D} {o : List Addr}, OwL R vs ds o → (∀ v d o', d ∈ ds → (∀ a ∈ o', a ∈ o) → R v d o' → R' v d o') → OwL R' vs ds o
  | _, _, _, .nil, _ => .nil
  | _, _, _, .cons r rs, f => .cons (f _ _ _ (by simp) (fun a ha => by simp [ha]) r) (OwL.imp rs fun v d o' hd ho q => f v d o' (by simp [hd]) (fun a ha => by simp [ho a ha]) q)
theorem OwL.toL {R : V → D → List Addr → Prop} : ∀ {vs : List V} {ds : List D} {o : List Addr}, OwL R vs ds o → (∀ v d o', d ∈ ds → (∀ a ∈ o', a ∈ o) → R v d o' → Rp sa P H v d) → RpL sa P H vs ds
  | _, _, _, .nil, _ => .nil
  | _, _, _, .cons r rs, f => .cons (f _ _ _ (by simp) (fun a ha => by simp [ha]) r) (OwL.toL rs fun v d o' hd ho q => f v d o' (by simp [hd]) (fun a ha => by simp [ho a ha]) q)
/-- forget what is owned -/
theorem Ow.rp : ∀ (k : Nat) {v : V} {d : D} {o : List Addr}, Ow sa P H k v d o → (∀ a, P a → P' a) → (∀ a ∈ o, P' a) → Rp sa P' H v d
  | 0, v, d, o, h, p, _ => Rp.imp h p
  | k + 1, v, d, o, h, p, ho => by
    cases d with
    | lst l =>
      obtain ⟨a, vs, os, rfl, e, r, rfl⟩ := h
      exact .lst (ho a (by simp)) e (r.toL fun v d o' _ h1 q => Ow.rp k q p fun b hb => ho b (by simp [h1 b hb]))
    | dct t l =>
      rcases h with ⟨a, kvs, os, rfl, rfl, e, ek, r, rfl⟩ | ⟨a, kvs, os, rfl, rfl, e, ek, r, rfl⟩
      · exact .dK (ho a (by simp)) e ek (r.toL fun v d o' _ h1 q => Ow.rp k q p fun b hb => ho b (by simp [h1 b hb]))
      · exact .dT (ho a (by simp)) e ek (r.toL fun v d o' _ h1 q => Ow.rp k q p fun b hb => ho b (by simp [h1 b hb]))
    | _ => exact Rp.imp h p
theorem Ow.mono : ∀ (k : Nat) {v : V} {d : D} {o : List Addr}, Ow sa P H k v d o → (∀ a u, P a → H a = some u → P' a ∧ H' a = some u) → (∀ a u, a ∈ o → H a = some u → H' a = some u) →
    (∀ a xs, H a = some (.tup xs) → H' a = some (.tup xs)) → Ow sa P' H' k v d o
  | 0, v, d, o, h, p, _, ht => Rp.mono h p ht
  | k + 1, v, d, o, h, p, ho, ht => by
    cases d with
    | lst l =>
      obtain ⟨a, vs, os, rfl, e, r, rfl⟩ := h
      exact ⟨a, vs, os, rfl, ho a _ (by simp) e, r.imp fun v d o' _ h1 q => Ow.mono k q p (fun b u hb => ho b u (by simp [h1 b hb])) ht, rfl⟩
    | dct t l =>
      rcases h with ⟨a, kvs, os, rfl, rfl, e, ek, r, rfl⟩ | ⟨a, kvs, os, rfl, rfl, e, ek, r, rfl⟩
      · exact .inl ⟨a, kvs, os, rfl, rfl, ho a _ (by simp) e, ek, r.imp fun v d o' _ h1 q => Ow.mono k q p (fun b u hb => ho b u (by simp [h1 b hb])) ht, rfl⟩
      · exact .inr ⟨a, kvs, os, rfl, rfl, ho a _ (by simp) e, ek, r.imp fun v d o' _ h1 q => Ow.mono k q p (fun b u hb => ho b u (by simp [h1 b hb])) ht, rfl⟩
    | _ => exact Rp.mono h p ht
theorem Ow.imm0 {n : Nat} : ∀ (k : Nat) {v : V} {d : D} {o : List Addr}, Ow sa P H k v d o → d.imm n = true → Rp sa P' H v d
  | 0, v, d, o, h, hi => Rp.imm h hi fun _ _ q => q
  | k + 1, v, d, o, h, hi => by
    cases d with
    | lst l => cases n <;> simp [D.imm] at hi
    | dct t l => cases n <;> simp [D.imm] at hi
    | _ => exact Rp.imm (n := n) (show Rp sa P H v _ from h) hi fun _ _ q => q
/-- owned deep enough, and nothing that may change below: owned to the depth k -/
theorem Ow.immK : ∀ (j k : Nat) {v : V} {d : D} {o : List Addr}, Ow sa P H k v d o → j ≤ k → d.immK j = true → Ow sa P' H j v d o
  | 0, k, v, d, o, h, _, hi => Ow.imm0 (n := 20) k h hi
  | j + 1, 0, _, _, _, _, hl, _ => by omega
  | j + 1, k + 1, v, d, o, h, hl, hi => by
    cases d with
    | lst l =>
      obtain ⟨a, vs, os, rfl, e, r, rfl⟩ := h
      have hi' : ∀ d ∈ l, d.immK j = true := by simpa [D.immK] using hi
      exact ⟨a, vs, os, rfl, e, r.imp fun v d o' hd h1 q => Ow.immK j k q (by omega) (hi' d hd), rfl⟩
    | dct t l =>
      have hi' : ∀ d ∈ l.map (·.2), d.immK j = true := by
        intro d hd
        obtain ⟨p, hp, rfl⟩ := List.mem_map.mp hd
        have := List.all_eq_true.mp (by simpa only [D.immK] using hi : (l.all fun p => p.1.imm 20 && D.immK j p.2) = true) p hp
        exact (Bool.and_eq_true_iff.mp this).2
      rcases h with ⟨a, kvs, os, rfl, rfl, e, ek, r, rfl⟩ | ⟨a, kvs, os, rfl, rfl, e, ek, r, rfl⟩
      · exact .inl ⟨a, kvs, os, rfl, rfl, e, ek, r.imp fun v d o' hd h1 q => Ow.immK j k q (by omega) (hi' d hd), rfl⟩
      · exact .inr ⟨a, kvs, os, rfl, rfl, e, ek, r.imp fun v d o' hd h1 q => Ow.immK j k q (by omega) (hi' d hd), rfl⟩
    | _ => exact Rp.imm (n := 20) (show Rp sa P H v _ from h) (by simpa [D.immK] using hi) fun _ _ q => q
theorem Ow.of0 {v : V} {d : D} {o : List Addr} (h : Rp sa P H v d) : Ow sa P H 0 v d o := h
end

/-! ### readings -/
/-- the names -/
structure RE (sa : Addr) (P : Addr → Prop) (env : Env) (σ : L2.St) (H : Hp) : Prop where
  len : σ.length = env.length
  val : ∀ (i : Nat) (d : D), env[i]? = some (some d) → ∃ v, σ[i]? = some (some v) ∧ Rp sa P H v d
/-- what is wanted of an exception -/
def XW (y : Yx) (EE : XK) (H : Hp) : Exc → Src → Prop := fun e s' => ∀ cls d H', Ext y H H' → SrcAt y H' s' → y.XR e cls d H' → EE cls d H'
theorem XW.mono {y : Yx} {EE : XK} {H H1 : Hp} {e : Exc} {s : Src} (h : XW y EE H e s) (x : Ext y H H1) : XW y EE H1 e s := fun cls d H' x' => h cls d H' (x.trans x')
/-- what comes of an expression: owned to the depth k -/
def Post (y : Yx) (k : Nat) (P : Addr → Prop) (H : Hp) (Q : VK) : D → Src → Prop := fun d s' =>
  ∀ v H' o, Ext y H H' → SrcAt y H' s' → (∀ a ∈ o, H a = none) → o.Nodup → Ow y.sa (fun a => Pn P H a ∧ a ∉ o) H' k v d o → Q v H'
/-- the state within an expression that began at H0 -/
structure Bs (y : Yx) (P : Addr → Prop) (H0 : Hp) (env : Env) (s : Src) (σ : L2.St) (H : Hp) : Prop where
  ext : Ext y H0 H
  pok : Pok y (Pn P H0)
  re : RE y.sa (Pn P H0) env σ H
  src : SrcAt y H s
def St0 (y : Yx) (P : Addr → Prop) (env : Env) (s : Src) (σ : L2.St) (H : Hp) : Prop := Pok y P ∧ RE y.sa P env σ H ∧ SrcAt y H s
def rdE (y : Yx) (EE : XK) (k : Nat) (m : EM) : TE := fun σ H Q => ∃ P env s, St0 y P env s σ H ∧ (m y.R env s).sat (Post y k P H Q) (XW y EE H)
def rdT (y : Yx) (EE : XK) (m : TM) : TT := fun σ H Q => ∃ P env s, St0 y P env s σ H ∧ (m y.R env s).sat (fun b s' => ∀ H', Ext y H H' → SrcAt y H' s' → Q b H') (XW y EE H)
def rdL (y : Yx) (EE : XK) (m : LM) : TA := fun σ H Q => ∃ P env s, St0 y P env s σ H ∧ (m y.R env s).sat (fun ds s' => ∀ vs H', Ext y H H' → SrcAt y H' s' → RpL y.sa (Pn P H) H' vs ds → Q vs H') (XW y EE H)
def rdO (y : Yx) (EE : XK) (m : OM) : TO := fun σ H Q => ∃ P env s, St0 y P env s σ H ∧ (m y.R env s).sat (fun o s' => ∀ H', Ext y H H' → SrcAt y H' s' → Q o H') (XW y EE H)

section
variable {α β : Type} {y : Yx} {EE : XK} {P : Addr → Prop} {env : Env} {s : Src} {σ : L2.St} {H H0 H' : Hp}
theorem Res.sat_mono {r : Res α} {Q Q' : α → Src → Prop} {E E' : Exc → Src → Prop} (h : r.sat Q E) (q : ∀ a s, Q a s → Q' a s) (e : ∀ a s, E a s → E' a s) : r.sat Q' E' := by
  cases r with
  | ok a s => exact q a s h
  | ex x s => exact e x s h
  | no => exact h
theorem Res.sat_bind {r : Res α} {f : α → Src → Res β} {Q : β → Src → Prop} {E : Exc → Src → Prop} (h : (r.bind f).sat Q E) : r.sat (fun a s => (f a s).sat Q E) E := by
  cases r with
  | ok a s => exact h
  | ex x s => exact h
  | no => exact h
theorem ofO_sat {o : Option α} {Q : α → Src → Prop} {E : Exc → Src → Prop} (h : (ofO o s).sat Q E) : ∃ a, o = some a ∧ Q a s := by
  cases o with
  | none => exact h.elim
  | some a => exact ⟨a, rfl, h⟩
theorem RE.mono {sa : Addr} {P P' : Addr → Prop} (h : RE sa P env σ H) (f : ∀ v d, Rp sa P H v d → Rp sa P' H' v d) : RE sa P' env σ H' :=
  ⟨h.len, fun i d e => let ⟨v, h1, h2⟩ := h.val i d e; ⟨v, h1, f v d h2⟩⟩
theorem St0.bs (h : St0 y P env s σ H) : Bs y P H env s σ H := ⟨Ext.refl, h.1.pn h.2.2, h.2.1.mono fun v d r => r.imp fun a q => .inl q, h.2.2⟩
theorem Bs.st0 (h : Bs y P H0 env s σ H) : St0 y (Pn P H0) env s σ H := ⟨h.pok, h.re, h.src⟩
theorem Bs.to (h : Bs y P H0 env s σ H) {s' : Src} (x : Ext y H H') (hs : SrcAt y H' s') : Bs y P H0 env s' σ H' :=
  ⟨h.ext.trans x, h.pok, h.re.mono fun v d r => r.ext h.pok h.src x, hs⟩
theorem Bs.rp (h : Bs y P H0 env s σ H) (x : Ext y H H') {v : V} {d : D} (r : Rp y.sa (Pn P H0) H v d) : Rp y.sa (Pn P H0) H' v d := r.ext h.pok h.src x
theorem Bs.rpl (h : Bs y P H0 env s σ H) (x : Ext y H H') {v : List V} {d : List D} (r : RpL y.sa (Pn P H0) H v d) : RpL y.sa (Pn P H0) H' v d := r.ext h.pok h.src x
/-- the step: an expression, then what comes behind it -/
theorem bindE {m : EM} {f : D → Src → Res β} {Qs : β → Src → Prop} {G : VK} (b : Bs y P H0 env s σ H) (h : ((m y.R env s).bind f).sat Qs (XW y EE H0))
    (c : ∀ d s' v H', Ext y H H' → Bs y P H0 env s' σ H' → Rp y.sa (Pn P H0) H' v d → (f d s').sat Qs (XW y EE H0) → G v H') : rdE y EE 0 m σ H G :=
  ⟨Pn P H0, env, s, b.st0, Res.sat_mono (Res.sat_bind h) (fun d s' q v H' o x hs _ _ r => c d s' v H' x (b.to x hs) (r.imp fun a z => pn_pn b.ext b.src a z.1) q) fun e s' q => q.mono b.ext⟩
theorem bindT {m : TM} {f : Bool → Src → Res β} {Qs : β → Src → Prop} {G : Bool → Hp → Prop} (b : Bs y P H0 env s σ H) (h : ((m y.R env s).bind f).sat Qs (XW y EE H0))
    (c : ∀ d s' H', Ext y H H' → Bs y P H0 env s' σ H' → (f d s').sat Qs (XW y EE H0) → G d H') : rdT y EE m σ H G :=
  ⟨Pn P H0, env, s, b.st0, Res.sat_mono (Res.sat_bind h) (fun d s' q H' x hs => c d s' H' x (b.to x hs) q) fun e s' q => q.mono b.ext⟩
theorem bindL {m : LM} {f : List D → Src → Res β} {Qs : β → Src → Prop} {G : List V → Hp → Prop} (b : Bs y P H0 env s σ H) (h : ((m y.R env s).bind f).sat Qs (XW y EE H0))
    (c : ∀ ds s' vs H', Ext y H H' → Bs y P H0 env s' σ H' → RpL y.sa (Pn P H0) H' vs ds → (f ds s').sat Qs (XW y EE H0) → G vs H') : rdL y EE m σ H G :=
  ⟨Pn P H0, env, s, b.st0, Res.sat_mono (Res.sat_bind h) (fun ds s' q vs H' x hs r => c ds s' vs H' x (b.to x hs) (r.imp fun a z => pn_pn b.ext b.src a z) q) fun e s' q => q.mono b.ext⟩
theorem bindO {m : OM} {f : Option Int → Src → Res β} {Qs : β → Src → Prop} {G : Option Int → Hp → Prop} (b : Bs y P H0 env s σ H) (h : ((m y.R env s).bind f).sat Qs (XW y EE H0))
    (c : ∀ d s' H', Ext y H H' → Bs y P H0 env s' σ H' → (f d s').sat Qs (XW y EE H0) → G d H') : rdO y EE m σ H G :=
  ⟨Pn P H0, env, s, b.st0, Res.sat_mono (Res.sat_bind h) (fun d s' q H' x hs => c d s' H' x (b.to x hs) q) fun e s' q => q.mono b.ext⟩
/-- the last expression -/
theorem lastE {m : EM} {k : Nat} {Q : VK} (b : Bs y P H0 env s σ H) (h : (m y.R env s).sat (Post y k P H0 Q) (XW y EE H0)) : rdE y EE k m σ H Q :=
  ⟨Pn P H0, env, s, b.st0, Res.sat_mono h (fun d s' q v H' o x hs no nd r => q v H' o (b.ext.trans x) hs (fun a ha => b.ext.back b.src (no a ha)) nd (r.mono k (fun a u z e => ⟨⟨pn_pn b.ext b.src a z.1, z.2⟩, e⟩) (fun _ _ _ e => e) fun _ _ e => e)) fun e s' q => q.mono b.ext⟩
theorem lastT {m : TM} {Q : Bool → Hp → Prop} (b : Bs y P H0 env s σ H) (h : (m y.R env s).sat (fun b s' => ∀ H', Ext y H0 H' → SrcAt y H' s' → Q b H') (XW y EE H0)) : rdT y EE m σ H Q :=
  ⟨Pn P H0, env, s, b.st0, Res.sat_mono h (fun d s' q H' x hs => q H' (b.ext.trans x) hs) fun e s' q => q.mono b.ext⟩
theorem lastL {m : LM} {Q : List V → Hp → Prop} (b : Bs y P H0 env s σ H) (h : (m y.R env s).sat (fun ds s' => ∀ vs H', Ext y H0 H' → SrcAt y H' s' → RpL y.sa (Pn P H0) H' vs ds → Q vs H') (XW y EE H0)) : rdL y EE m σ H Q :=
  ⟨Pn P H0, env, s, b.st0, Res.sat_mono h (fun d s' q vs H' x hs r => q vs H' (b.ext.trans x) hs (r.imp fun a z => pn_pn b.ext b.src a z)) fun e s' q => q.mono b.ext⟩
/-- a value of the first depth is there -/
theorem Post.give {Q : VK} {d : D} {s' : Src} (p : Post y 0 P H0 Q d s') {v : V} {H1 : Hp} (x : Ext y H0 H1) (hs : SrcAt y H1 s') (r : Rp y.sa (Pn P H0) H1 v d) : Q v H1 :=
  p v H1 [] x hs (fun _ h => by simp at h) .nil (Rp.imp r fun a q => ⟨q, by simp⟩)
/-- a value that is no list and no dict -/
theorem Post.fix {Q : VK} {k n : Nat} {d : D} {s' : Src} (p : Post y k P H0 Q d s') {v : V} {H1 : Hp} (x : Ext y H0 H1) (hs : SrcAt y H1 s') (r : Rp y.sa (Pn P H0) H1 v d) (hi : d.imm n = true) : Q v H1 := by
  refine p v H1 [] x hs (fun _ h => by simp at h) .nil ?_
  have r' : Rp y.sa (fun a => Pn P H0 a ∧ a ∉ ([] : List Addr)) H1 v d := Rp.imp r fun a q => ⟨q, by simp⟩
  cases k with
  | zero => exact r'
  | succ k => cases d with
    | lst l => cases n <;> simp [D.imm] at hi
    | dct t l => cases n <;> simp [D.imm] at hi
    | _ => exact r'
theorem PE.imp {X : Cx} {e : Expr} {t t' : TE} (h : PE X e t) (f : ∀ σ H Q, t' σ H Q → t σ H Q) : PE X e t' := ⟨fun pins s σ H Q I q => h.run pins s σ H Q I (f σ H Q q)⟩
theorem PT.imp {X : Cx} {e : Expr} {t t' : TT} (h : PT X e t) (f : ∀ σ H Q, t' σ H Q → t σ H Q) : PT X e t' := ⟨fun pins s σ H Q I q => h.run pins s σ H Q I (f σ H Q q)⟩
theorem PW.imp {X : Cx} {e : Expr} {t t' : TT} (h : PW X e t) (f : ∀ σ H Q, t' σ H Q → t σ H Q) : PW X e t' := ⟨fun w pins s σ H Q I q => h.run w pins s σ H Q I (f σ H Q q)⟩
theorem PA.imp {X : Cx} {e : List Expr} {t t' : TA} (h : PA X e t) (f : ∀ σ H Q, t' σ H Q → t σ H Q) : PA X e t' := ⟨fun p pins s σ H Q I q => h.run p pins s σ H Q I (f σ H Q q)⟩
theorem PO.imp {X : Cx} {e : Option Expr} {t t' : TO} (h : PO X e t) (f : ∀ σ H Q, t' σ H Q → t σ H Q) : PO X e t' := ⟨fun pins s σ H Q I q => h.run pins s σ H Q I (f σ H Q q)⟩
theorem PI.imp {X : Cx} {tg e : Expr} {t t' : TI} (h : PI X tg e t) (f : ∀ σ H Q, t' σ H Q → t σ H Q) : PI X tg e t' := ⟨fun pins s σ H Q I q => h.run pins s σ H Q I (f σ H Q q)⟩
theorem PS.imp {X : Cx} {st : Stmt} {t t' : TS} (h : PS X st t) (f : ∀ D σ H, t' D σ H → t D σ H) : PS X st t' := ⟨fun pins s σ H D I q => h.run pins s σ H D I (f D σ H q)⟩
theorem PSs.imp {X : Cx} {st : List Stmt} {t t' : TS} (h : PSs X st t) (f : ∀ D σ H, t' D σ H → t D σ H) : PSs X st t' := ⟨fun pins s σ H D I q => h.run pins s σ H D I (f D σ H q)⟩
end
end Lt

/-! Lt: the operators, by values. -/
namespace Lt
open PySem PySem.Spec PyProof.Rows L2

/-- no list, no dict -/
def D.noMut : D → Bool
  | .lst _ => false
  | .dct _ _ => false
  | _ => true
def PostX (sa : Addr) (k : Nat) (P : Addr → Prop) (H : Hp) (Q : VK) (d : D) : Prop :=
  ∀ v H' o, Ex H H' → (∀ a ∈ o, H a = none) → o.Nodup → Ow sa (fun a => Pn P H a ∧ a ∉ o) H' k v d o → Q v H'
section
variable {sa : Addr} {P : Addr → Prop} {H H' : Hp} {Q : VK} {k : Nat} {d : D} {v : V}
theorem Ow.noMut {o : List Addr} (h : Rp sa P H v d) (n : d.noMut = true) : Ow sa P H k v d o := by
  cases k with
  | zero => exact h
  | succ k => cases d with
    | lst l => simp [D.noMut] at n
    | dct t l => simp [D.noMut] at n
    | _ => exact h
theorem PostX.give (p : PostX sa k P H Q d) (n : d.noMut = true) (x : Ex H H') (r : Rp sa (Pn P H) H' v d) : Q v H' :=
  p v H' [] x (fun _ h => by simp at h) .nil (Ow.noMut (r.imp fun a q => ⟨q, by simp⟩) n)
theorem PostX.here (p : PostX sa k P H Q d) (n : d.noMut = true) (r : Rp sa P H v d) : Q v H := p.give n Ex.refl (r.imp fun a q => .inl q)
theorem PostX.here0 (p : PostX sa 0 P H Q d) (r : Rp sa P H v d) : Q v H :=
  p v H [] Ex.refl (fun _ h => by simp at h) .nil (Rp.imp r fun a q => ⟨.inl q, by simp⟩)
theorem OwL.of0 {P : Addr → Prop} {H : Hp} : ∀ {vs : List V} {l : List D}, RpL sa P H vs l → OwL (Ow sa P H 0) vs l []
  | _, _, .nil => .nil
  | _, _, .cons r rs => by
    have h := OwL.cons (R := Ow sa P H 0) (o := []) (show Ow sa P H 0 _ _ [] from r) (OwL.of0 rs)
    exact h
theorem PostX.newL {a : Addr} {vs : List V} {l : List D} (p : PostX sa 1 P H Q (.lst l)) (na : H a = none) (r : RpL sa P H vs l) : Q (.ref a) (upd H a (.lst vs)) := by
  refine p (.ref a) _ [a] (Ex.new na) (fun b hb => by simp at hb; rw [hb]; exact na) (by simp) ⟨a, vs, [], rfl, upd_same, OwL.of0 (r.mono (fun b u q e => ?_) fun b u e => Ex.new na b _ e), rfl⟩
  exact ⟨⟨.inl q, by simp; rintro rfl; rw [na] at e; cases e⟩, Ex.new na b u e⟩
theorem PostX.newL0 {a : Addr} {vs : List V} {l : List D} (p : PostX sa 0 P H Q (.lst l)) (na : H a = none) (r : RpL sa P H vs l) : Q (.ref a) (upd H a (.lst vs)) := by
  refine p (.ref a) _ [] (Ex.new na) (fun b hb => by simp at hb) .nil (Rp.lst ⟨.inr na, by simp⟩ upd_same (r.mono (fun b u q e => ?_) fun b u e => Ex.new na b _ e))
  exact ⟨⟨.inl q, by simp⟩, Ex.new na b u e⟩
theorem PostX.newT {a : Addr} {vs : List V} {l : List D} (p : PostX sa k P H Q (.tup l)) (na : H a = none) (r : RpL sa P H vs l) : Q (.ref a) (upd H a (.tup vs)) :=
  p.give rfl (Ex.new na) (.tup upd_same (r.mono (fun b u q e => ⟨.inl q, Ex.new na b u e⟩) fun b u e => Ex.new na b _ e))
theorem PostX.dn (p : PostX sa 0 P H Q d) : PostX sa k P H Q d := fun v H' o x no nd r =>
  p v H' [] x (fun _ h => by simp at h) .nil (Ow.rp k r (fun a q => ⟨q.1, by simp⟩) fun a ha => ⟨.inr (no a ha), by simp⟩)
end

def OpOk (y : Yx) (X : Cx) (f : Value → Value → Sem Value) (g : D → D → Option D) (k : Nat) : Prop :=
  OpR X f (fun x z H Q => ∃ P d1 d2 d, Rp y.sa P H x d1 ∧ Rp y.sa P H z d2 ∧ g d1 d2 = some d ∧ PostX y.sa k P H Q d)
section
variable {y : Yx} {X : Cx}
theorem big_le {n : Nat} (h : n ≤ big) : n ≤ sizeLine := Nat.le_trans h (by decide)
theorem ok_add : OpOk y X (binaryOp .Add) dAdd 1 := by
  intro pins s σ H x z v u Q I rx rz h
  obtain ⟨P, d1, d2, d, r1, r2, e, p⟩ := h
  cases r1 <;> cases r2 <;> try (simp [dAdd] at e; done)
  case int.bl i b => simp [dAdd] at e; subst e; exact op_add_ib pins s σ H _ _ v u Q I rx rz ⟨i, b, rfl, rfl, p.here rfl (.int _)⟩
  case int.int i j => simp [dAdd] at e; subst e; exact op_add pins s σ H _ _ v u Q I rx rz ⟨i, j, rfl, rfl, p.here rfl (.int _)⟩
  case str.str i j =>
    simp only [dAdd] at e
    split at e
    · rename_i hz; simp at e; subst e; exact op_add_str pins s σ H _ _ v u Q I rx rz ⟨i, j, rfl, rfl, big_le hz, p.here rfl (.str _)⟩
    · cases e
  case tup.tup a vs l ha ra b ws m hb rb =>
    simp only [dAdd] at e
    split at e
    · rename_i hz; simp at e; subst e
      refine op_catA pins s σ H _ _ v u Q I rx rz ⟨a, b, vs, ws, rfl, rfl, SqT.of ha, SqT.of hb, ?_, ?_, ?_, ?_⟩
      · rw [ra.length, rb.length]; exact big_le hz
      · rintro rfl; cases ra; exact p.here rfl (.tup hb rb)
      · rintro _ rfl; cases rb; rw [List.append_nil] at p; exact p.here rfl (.tup ha ra)
      · intro _ _ q hq; exact p.newT hq (ra.append rb)
    · cases e
  case lst.lst a vs l pa ha ra b ws m pb hb rb =>
    simp only [dAdd] at e
    split at e
    · rename_i hz; simp at e; subst e
      refine op_cat pins s σ H _ _ v u Q I rx rz ⟨a, b, vs, ws, rfl, rfl, ha, hb, ?_, ?_⟩
      · rw [ra.length, rb.length]; exact big_le hz
      · intro q hq; exact p.newL hq (ra.append rb)
    · cases e
theorem ok_sub : OpOk y X (binaryOp .Sub) dSub 1 := by
  intro pins s σ H x z v u Q I rx rz h
  obtain ⟨P, d1, d2, d, r1, r2, e, p⟩ := h
  cases r1 <;> cases r2 <;> try (simp [dSub] at e; done)
  case int.int i j => simp [dSub] at e; subst e; exact op_sub pins s σ H _ _ v u Q I rx rz ⟨i, j, rfl, rfl, p.here rfl (.int _)⟩
theorem ok_fdiv : OpOk y X (binaryOp .FloorDiv) dFdiv 1 := by
  intro pins s σ H x z v u Q I rx rz h
  obtain ⟨P, d1, d2, d, r1, r2, e, p⟩ := h
  cases r1 <;> cases r2 <;> try (simp [dFdiv] at e; done)
  case int.int i j =>
    simp only [dFdiv] at e
    split at e
    · rename_i hz; simp at e; subst e
      simp [small30] at hz
      exact op_fdivN pins s σ H _ _ v u Q I rx rz ⟨i, j, rfl, rfl, ⟨hz.1, by have := hz.2; omega⟩, p.here rfl (.int _)⟩
    · cases e
theorem ok_mod : OpOk y X (binaryOp .Mod) dMod 1 := by
  intro pins s σ H x z v u Q I rx rz h
  obtain ⟨P, d1, d2, d, r1, r2, e, p⟩ := h
  cases r1 <;> cases r2 <;> try (simp [dMod] at e; done)
  case int.int i j =>
    simp only [dMod] at e
    split at e
    · cases e
    · rename_i hz; simp at e; subst e
      exact op_modN pins s σ H _ _ v u Q I rx rz ⟨i, j, rfl, rfl, hz, p.here rfl (.int _)⟩
theorem cmul_of {i j : Int} (h : (small64 i || small64 j) = true) : CMul i j := by
  rcases Bool.or_eq_true_iff.mp h with h | h <;> simp only [small64, decide_eq_true_eq] at h
  · left; omega
  · right; omega

/-! ### == and the like -/
theorem ok_str {x : Str} {n : Nat} (h : D.ok n (.str x) = true) : PyData.strOk x = true := by
  cases n with
  | zero => simp [D.ok] at h
  | succ n => simpa [D.ok, PyData.strOk] using h
mutual
theorem ok_lay : ∀ {n : Nat} {d : D}, d.ok n = true → d.toP.canLay0 = true ∧ d.toP.depth ≤ n
  | 0, d, h => by simp [D.ok] at h
  | n + 1, .non, _ => by simp [D.toP, PyData.canLay0, PyData.depth]
  | n + 1, .bl b, _ => by simp [D.toP, PyData.canLay0, PyData.depth]
  | n + 1, .int b, _ => by simp [D.toP, PyData.canLay0, PyData.depth]
  | n + 1, .str x, h => by simp [D.toP, PyData.canLay0, PyData.depth, ok_str h]
  | n + 1, .tup l, h => by
    have := ok_layL (n := n) (l := l) (by simpa [D.ok] using h)
    simp only [D.toP, PyData.canLay0, PyData.depth]
    exact ⟨this.1, by omega⟩
  | n + 1, .lst l, h => by
    have := ok_layL (n := n) (l := l) (by simpa [D.ok] using h)
    simp only [D.toP, PyData.canLay0, PyData.depth]
    exact ⟨this.1, by omega⟩
  | n + 1, .dct _ l, h => by simp [D.ok] at h
  | n + 1, .src, h => by simp [D.ok] at h
theorem ok_layL : ∀ {n : Nat} {l : List D}, (∀ d ∈ l, d.ok n = true) → PyData.canLayAll0 (D.toPs l) = true ∧ PyData.depthAll (D.toPs l) ≤ n
  | n, [], _ => by simp [D.toPs, PyData.canLayAll0, PyData.depthAll]
  | n, d :: l, h => by
    have h1 := ok_lay (n := n) (h d (by simp))
    have h2 := ok_layL (n := n) (l := l) fun e he => h e (by simp [he])
    simp only [D.toPs, PyData.canLayAll0, PyData.depthAll, Bool.and_eq_true]
    exact ⟨⟨h1.1, h2.1⟩, by omega⟩
end
theorem ok_shaped {n : Nat} {d : D} (hn : n ≤ 64) (h : d.ok n = true) : SeqAt.shaped d.toP = true := by
  have := ok_lay h
  simp only [SeqAt.shaped, Bool.and_eq_true, decide_eq_true_eq]
  exact ⟨this.1, by omega⟩
mutual
theorem Rp.dp {sa : Addr} {P : Addr → Prop} {H : Hp} {K : PySem.W.Frag} {v : V} : ∀ {n : Nat} {d : D}, Rp sa P H v d → d.ok n = true → Dp K H v d.toP
  | 0, d, _, h => by simp [D.ok] at h
  | n + 1, d, r, h => by
    cases r with
    | non => exact .non
    | bl b => exact .bl b
    | int b => exact .int b
    | str b => exact .str b
    | tup e r => exact .tup (SqT.of e) (RpL.dp (n := n) r (by simpa [D.ok] using h))
    | lst p e r => exact .lst (SqL.of e) (RpL.dp (n := n) r (by simpa [D.ok] using h))
    | dK p e k r => simp [D.ok] at h
    | dT p e k r => simp [D.ok] at h
    | src => simp [D.ok] at h
theorem RpL.dp {sa : Addr} {P : Addr → Prop} {H : Hp} {K : PySem.W.Frag} : ∀ {n : Nat} {vs : List V} {l : List D}, RpL sa P H vs l → (∀ d ∈ l, d.ok n = true) → DpAll K H vs (D.toPs l)
  | n, _, _, r, h => by
    cases r with
    | nil => exact .nil
    | cons r rs => exact .cons (Rp.dp (n := n) r (h _ (by simp))) (RpL.dp (n := n) rs fun e he => h e (by simp [he]))
end
theorem int_beq (x z : Int) : (x == z) = decide (x = z) := by
  by_cases h : x = z <;> simp [h]
theorem str_beq (x z : Str) : (x == z) = decide (x = z) := by
  by_cases h : x = z
  · simp [h]
  · simp [h]
mutual
theorem eqv_eq : ∀ (d e : D) {n m : Nat}, d.ok n = true → e.ok m = true → PyData.eqv d.toP e.toP = D.eq d e
  | .tup l, .tup k, n, m, h, h' => by
    cases n with
    | zero => simp [D.ok] at h
    | succ n => cases m with
      | zero => simp [D.ok] at h'
      | succ m =>
        simp only [D.toP, PyData.eqv, D.eq]
        exact eqv_eqL l k (n := n) (m := m) (by simpa [D.ok] using h) (by simpa [D.ok] using h')
  | .lst l, .lst k, n, m, h, h' => by
    cases n with
    | zero => simp [D.ok] at h
    | succ n => cases m with
      | zero => simp [D.ok] at h'
      | succ m =>
        simp only [D.toP, PyData.eqv, D.eq]
        exact eqv_eqL l k (n := n) (m := m) (by simpa [D.ok] using h) (by simpa [D.ok] using h')
  | .str x, .str z, _, _, _, _ => by simp only [D.toP, PyData.eqv, D.eq]; exact str_beq x z
  | .dct _ l, e, n, m, h, _ => by cases n <;> simp [D.ok] at h
  | .src, e, n, m, h, _ => by cases n <;> simp [D.ok] at h
  | d, .dct _ l, n, m, _, h => by cases m <;> simp [D.ok] at h
  | d, .src, n, m, _, h => by cases m <;> simp [D.ok] at h
  | .non, .non, _, _, _, _ => by simp [D.toP, PyData.eqv, D.eq]
  | .non, .bl _, _, _, _, _ => by simp [D.toP, PyData.eqv, D.eq]
  | .non, .int _, _, _, _, _ => by simp [D.toP, PyData.eqv, D.eq]
  | .non, .str _, _, _, _, _ => by simp [D.toP, PyData.eqv, D.eq]
  | .non, .tup _, _, _, _, _ => by simp [D.toP, PyData.eqv, D.eq]
  | .non, .lst _, _, _, _, _ => by simp [D.toP, PyData.eqv, D.eq]
  | .bl _, .non, _, _, _, _ => by simp [D.toP, PyData.eqv, D.eq]
  | .bl a, .bl b, _, _, _, _ => by simp [D.toP, PyData.eqv, D.eq]
  | .bl a, .int j, _, _, _, _ => by simp only [D.toP, PyData.eqv, D.eq]; cases a <;> simp [int_beq]
  | .bl _, .str _, _, _, _, _ => by simp [D.toP, PyData.eqv, D.eq]
  | .bl _, .tup _, _, _, _, _ => by simp [D.toP, PyData.eqv, D.eq]
  | .bl _, .lst _, _, _, _, _ => by simp [D.toP, PyData.eqv, D.eq]
  | .int _, .non, _, _, _, _ => by simp [D.toP, PyData.eqv, D.eq]
  | .int a, .bl b, _, _, _, _ => by simp only [D.toP, PyData.eqv, D.eq]; cases b <;> simp [int_beq]
  | .int a, .int b, _, _, _, _ => by simp only [D.toP, PyData.eqv, D.eq]; exact int_beq a b
  | .int _, .str _, _, _, _, _ => by simp [D.toP, PyData.eqv, D.eq]
  | .int _, .tup _, _, _, _, _ => by simp [D.toP, PyData.eqv, D.eq]
  | .int _, .lst _, _, _, _, _ => by simp [D.toP, PyData.eqv, D.eq]
  | .str _, .non, _, _, _, _ => by simp [D.toP, PyData.eqv, D.eq]
  | .str _, .bl _, _, _, _, _ => by simp [D.toP, PyData.eqv, D.eq]
  | .str _, .int _, _, _, _, _ => by simp [D.toP, PyData.eqv, D.eq]
  | .str _, .tup _, _, _, _, _ => by simp [D.toP, PyData.eqv, D.eq]
  | .str _, .lst _, _, _, _, _ => by simp [D.toP, PyData.eqv, D.eq]
  | .tup _, .non, _, _, _, _ => by simp [D.toP, PyData.eqv, D.eq]
  | .tup _, .bl _, _, _, _, _ => by simp [D.toP, PyData.eqv, D.eq]
  | .tup _, .int _, _, _, _, _ => by simp [D.toP, PyData.eqv, D.eq]
  | .tup _, .str _, _, _, _, _ => by simp [D.toP, PyData.eqv, D.eq]
  | .tup _, .lst _, _, _, _, _ => by simp [D.toP, PyData.eqv, D.eq]
  | .lst _, .non, _, _, _, _ => by simp [D.toP, PyData.eqv, D.eq]
  | .lst _, .bl _, _, _, _, _ => by simp [D.toP, PyData.eqv, D.eq]
  | .lst _, .int _, _, _, _, _ => by simp [D.toP, PyData.eqv, D.eq]
  | .lst _, .str _, _, _, _, _ => by simp [D.toP, PyData.eqv, D.eq]
  | .lst _, .tup _, _, _, _, _ => by simp [D.toP, PyData.eqv, D.eq]
theorem eqv_eqL : ∀ (l k : List D) {n m : Nat}, (∀ d ∈ l, d.ok n = true) → (∀ d ∈ k, d.ok m = true) → PyData.eqvAll (D.toPs l) (D.toPs k) = D.eqL l k
  | [], [], _, _, _, _ => by simp [D.toPs, PyData.eqvAll, D.eqL]
  | [], _ :: _, _, _, _, _ => by simp [D.toPs, PyData.eqvAll, D.eqL]
  | _ :: _, [], _, _, _, _ => by simp [D.toPs, PyData.eqvAll, D.eqL]
  | d :: l, e :: k, n, m, h, h' => by
    simp only [D.toPs, PyData.eqvAll, D.eqL]
    rw [eqv_eq d e (n := n) (m := m) (h d (by simp)) (h' e (by simp)), eqv_eqL l k (n := n) (m := m) (fun x hx => h x (by simp [hx])) fun x hx => h' x (by simp [hx])]
end
end
end Lt

/-! Lt: products. -/
namespace Lt
open PySem PySem.Spec PyProof.Rows L2
theorem tuple_mul1 (l : Addr) (items : Array Value) (n : Nat) (dd : Option Addr) (sl : Array (Option Value)) (u : Tok) :
    Meets (Builtin.«tuple.__mul__» ⟨[.ref l, .int 1 u], []⟩) (fun _ R s => s.heap.get? l = some { cls := .type "tuple", dict := dd, data := .seq items n, slots := sl } ∧ R (.ok (.ret (Value.ref l))) s) :=
  .of_wp fun prog w A R s h => by
    obtain ⟨hp, g, d, tk, os⟩ := s
    obtain ⟨hl, h⟩ := h
    have f1 := AutoSeq1.idx_int
    have c0 : ¬ ((decide ((1 : Int) < -(2 ^ 63)) || decide ((1 : Int) ≥ 2 ^ 63)) = true) := by decide
    have c1 : (items.isEmpty || (1 : Int) == 1) = true := by simp
    wp_walk using wpAny_loadPart' hl
    repeat (first
      | (refine wpAny_ite_false (decide_eq_false c0) ?_; wp_walk using wpAny_loadPart' hl)
      | (refine wpAny_ite_true (decide_eq_true c1) ?_; wp_walk using wpAny_loadPart' hl))
    exact ⟨_, rfl, h⟩
section
variable {y : Yx} {X : Cx}
theorem op_rep1 : OpR X (binaryOp .Mult) (fun x z H Q => ∃ l xs, x = .ref l ∧ z = .int 1 ∧ SqT X.K H l xs ∧ Q (.ref l) H) := by
  intro pins s σ H x y v u Q I rx ry h
  obtain ⟨l, xs, rfl, rfl, hT, q⟩ := h
  cases rx
  obtain ⟨t, rfl⟩ := ry
  obtain ⟨its, r, ⟨⟨cls, dd, data, sl⟩, ho, hc, n, hd⟩, hs⟩ := I.tuple hT
  simp only at hc hd
  subst hc hd
  refine wpAny_binaryOp_repeat_ref (T := "tuple") (U := "int") (by decide) ⟨_, ho, rfl⟩ (fun s' => typeIs_int s' 1 t) noFill_tuple_mul F.fills_int_mul F.slot_int_rmul repeat_tuple F.slot_int_index.lookup
    (call_meets F.slot_int_rmul (typeIs_int s 1 t) F.entry_int_rmul (F.args_int_rmul_2 _ _) (int_rmul_tuple 1 t l its.toArray n dd sl)
      ⟨ho, rfl, ⟨_, ho, rfl⟩, call_meets F.slot_tuple_mul ⟨_, ho, rfl⟩ F.entry_tuple_mul (F.args_tuple_mul_2 _ _) (tuple_mul1 l its.toArray n dd sl t) ⟨ho, ?_⟩⟩)
  exact ⟨.ref l, _, I.tok _, rfl, q⟩
theorem ok_mul : OpOk y X (binaryOp .Mult) dMul 1 := by
  intro pins s σ H x z v u Q I rx rz h
  obtain ⟨P, d1, d2, d, r1, r2, e, p⟩ := h
  cases r1 <;> cases r2 <;> try (simp [dMul] at e; done)
  case int.int i j =>
    simp only [dMul] at e
    split at e
    · rename_i hz; simp at e; subst e
      exact op_mul pins s σ H _ _ v u Q I rx rz ⟨i, j, rfl, rfl, cmul_of hz, p.here rfl (.int _)⟩
    · cases e
  case tup.int a vs l ha ra k =>
    simp only [dMul] at e
    split at e
    · rename_i hz; simp at e; subst e
      simp only [Bool.and_eq_true, decide_eq_true_eq, Bool.not_eq_true', List.isEmpty_eq_false_iff] at hz
      obtain ⟨⟨⟨h1, h2⟩, h3⟩, h4⟩ := hz
      by_cases hk : k = 1
      · subst hk
        refine op_rep1 pins s σ H _ _ v u Q I rx rz ⟨a, vs, rfl, rfl, SqT.of ha, p.here rfl (.tup ha ?_)⟩
        simpa [repL] using ra
      · refine op_repT pins s σ H _ _ v u Q I rx rz ⟨a, k, vs, rfl, rfl, SqT.of ha, ?_, by omega, h2, by rw [ra.length]; exact h4, fun q hq => p.newT hq (ra.rep _)⟩
        rintro rfl
        cases ra; exact h3 rfl
    · cases e
  case lst.int a vs l pa ha ra k =>
    simp only [dMul] at e
    split at e
    · rename_i hz; simp at e; subst e
      simp only [Bool.and_eq_true, decide_eq_true_eq] at hz
      obtain ⟨h1, h2⟩ := hz
      have h1' : k.natAbs ≤ 1000000 := h1
      exact op_rep pins s σ H _ _ v u Q I rx rz ⟨a, k, vs, rfl, rfl, ha, by omega, by omega, by rw [ra.length]; exact big_le h2, fun q hq => p.newL hq (ra.rep _)⟩
    · cases e
end
end Lt

/-! Lt: dicts by keys, comparisons, truth, subscripts. -/
namespace Lt
open PySem PySem.Spec PyProof.Rows L2
section
variable {sa : Addr} {P : Addr → Prop} {H : Hp} {v : V} {d : D}
theorem keyA_of (r : Rp sa P H v d) (h : d.keyA = true) : ∃ k : Key, v = kV k ∧ d = kD k := by
  cases r with
  | int i => exact ⟨.inl i, rfl, rfl⟩
  | str x => exact ⟨.inr x, rfl, rfl⟩
  | _ => simp [D.keyA] at h
theorem keysA_of {vs : List V} {l : List D} (r : RpL sa P H vs l) (h : ∀ d ∈ l, d.keyA = true) : ∃ ks : List Key, vs = ks.map kV ∧ l = ks.map kD := by
  induction l generalizing vs with
  | nil => cases r; exact ⟨[], rfl, rfl⟩
  | cons d l ih => cases r with
    | cons r rs =>
      obtain ⟨k, e1, e2⟩ := keyA_of r (h d (by simp))
      obtain ⟨ks, e3, e4⟩ := ih rs fun x hx => h x (by simp [hx])
      exact ⟨k :: ks, by rw [e1, e3]; rfl, by rw [e2, e4]; rfl⟩
theorem keyT_of (r : Rp sa P H v d) (h : d.keyT = true) : ∃ (ks : List Key) (b : Addr), v = .ref b ∧ H b = some (.tup (ks.map kV)) ∧ d = .tup (ks.map kD) := by
  cases r with
  | tup e r =>
    obtain ⟨ks, e1, e2⟩ := keysA_of r (by simpa [D.keyT] using h)
    exact ⟨ks, _, rfl, by rw [← e1]; exact e, by rw [e2]⟩
  | _ => simp [D.keyT] at h
theorem kD_eq (a b : Key) : D.eq (kD a) (kD b) = decide (a = b) := by
  cases a <;> cases b <;> simp [kD, D.eq]
theorem kDs_eq : ∀ (a b : List Key), D.eqL (a.map kD) (b.map kD) = decide (a = b)
  | [], [] => by simp [D.eqL]
  | [], _ :: _ => by simp [D.eqL]
  | _ :: _, [] => by simp [D.eqL]
  | x :: a, z :: b => by
    simp only [List.map_cons, D.eqL, kD_eq, kDs_eq a b]
    by_cases h : x = z <;> simp [h]
theorem kT_eq (a b : List Key) : D.eq (D.tup (a.map kD)) (D.tup (b.map kD)) = decide (a = b) := by simp only [D.eq]; exact kDs_eq a b

section
variable {κ : Type} [DecidableEq κ] (f : κ → D) (hf : ∀ a b, D.eq (f a) (f b) = decide (a = b))
include hf
theorem look_rel : ∀ {kvs : List (κ × V)} {l : List (D × D)}, l.map (·.1) = kvs.map (fun p => f p.1) → RpL sa P H (kvs.map (·.2)) (l.map (·.2)) → ∀ k,
    (lookD l (f k) = none ∧ valV kvs k = none ∧ hasD l (f k) = false) ∨ ∃ d v, lookD l (f k) = some d ∧ valV kvs k = some v ∧ hasD l (f k) = true ∧ Rp sa P H v d
  | [], [], _, _, k => .inl ⟨rfl, rfl, rfl⟩
  | [], _ :: _, e, _, _ => by simp at e
  | _ :: _, [], e, _, _ => by simp at e
  | p :: kvs, q :: l, e, r, k => by
    simp only [List.map_cons, List.cons.injEq] at e
    cases r with
    | cons r rs =>
      by_cases h : p.1 = k
      · refine .inr ⟨q.2, p.2, ?_, valV_pos h, ?_, r⟩
        · simp only [lookD, List.find?_cons, e.1, hf]; simp [h]
        · simp only [hasD, List.any_cons, e.1, hf]; simp [h]
      · have i := look_rel e.2 rs k
        have h1 : lookD (q :: l) (f k) = lookD l (f k) := by simp only [lookD, List.find?_cons, e.1, hf]; simp [h]
        have h2 : hasD (q :: l) (f k) = hasD l (f k) := by simp only [hasD, List.any_cons, e.1, hf]; simp [h]
        rw [h1, h2, valV_neg h]
        exact i
theorem has_any : ∀ {kvs : List (κ × V)} {l : List (D × D)}, l.map (·.1) = kvs.map (fun p => f p.1) → ∀ k, (kvs.any fun kv => decide (kv.1 = k)) = hasD l (f k)
  | [], [], _, k => rfl
  | [], _ :: _, e, _ => by simp at e
  | _ :: _, [], e, _ => by simp at e
  | p :: kvs, q :: l, e, k => by
    simp only [List.map_cons, List.cons.injEq] at e
    have i := has_any e.2 k
    simp only [List.any_cons, hasD, e.1, hf]
    rw [i]; rfl
theorem repl_rel {v : V} {d : D} (r0 : Rp sa P H v d) : ∀ {kvs : List (κ × V)} {l : List (D × D)}, l.map (·.1) = kvs.map (fun p => f p.1) → RpL sa P H (kvs.map (·.2)) (l.map (·.2)) → ∀ k,
    (l.map fun p => if D.eq p.1 (f k) then (p.1, d) else p).map (·.1) = (kvs.map fun kv => if kv.1 = k then (kv.1, v) else kv).map (fun p => f p.1) ∧
      RpL sa P H ((kvs.map fun kv => if kv.1 = k then (kv.1, v) else kv).map (·.2)) ((l.map fun p => if D.eq p.1 (f k) then (p.1, d) else p).map (·.2))
  | [], [], _, _, k => ⟨rfl, .nil⟩
  | [], _ :: _, e, _, _ => by simp at e
  | _ :: _, [], e, _, _ => by simp at e
  | p :: kvs, q :: l, e, r, k => by
    simp only [List.map_cons, List.cons.injEq] at e
    cases r with
    | cons r rs =>
      have i := repl_rel r0 e.2 rs k
      simp only [List.map_cons]
      by_cases h : p.1 = k
      · have h' : D.eq q.1 (f k) = true := by rw [e.1, hf]; simp [h]
        simp only [h', if_pos h, if_true]
        exact ⟨by rw [i.1, e.1], .cons r0 i.2⟩
      · have h' : D.eq q.1 (f k) = false := by rw [e.1, hf]; simp [h]
        rw [if_neg h]
        simp only [h', Bool.false_eq_true, if_false]
        exact ⟨by rw [i.1, e.1], .cons r i.2⟩
theorem put_rel {v : V} {d : D} (r0 : Rp sa P H v d) {kvs : List (κ × V)} {l : List (D × D)} (e : l.map (·.1) = kvs.map (fun p => f p.1)) (r : RpL sa P H (kvs.map (·.2)) (l.map (·.2))) (k : κ) :
    (putD l (f k) d).map (·.1) = (putK kvs k v).map (fun p => f p.1) ∧ RpL sa P H ((putK kvs k v).map (·.2)) ((putD l (f k) d).map (·.2)) := by
  have ha := has_any f hf e k
  unfold putD putK
  rw [ha]
  by_cases h : hasD l (f k) = true
  · rw [if_pos h, if_pos h]
    exact repl_rel f hf r0 e r k
  · rw [if_neg h, if_neg h]
    refine ⟨by simp [e], ?_⟩
    simp only [List.map_append, List.map_cons, List.map_nil]
    exact r.append (.cons r0 .nil)
end
/-- what a dict holds, by its sort of keys -/
theorem dct_get {t : Bool} {l : List (D × D)} {x : V} {k : D} (r : Rp sa P H v (.dct t l)) (rk : Rp sa P H x k) (hk : k.keyOf t = true) :
    ∃ a, v = .ref a ∧ ((lookD l k = none ∧ DGet H a x none ∧ hasD l k = false) ∨ ∃ d w, lookD l k = some d ∧ DGet H a x (some w) ∧ hasD l k = true ∧ Rp sa P H w d) := by
  cases r with
  | dK p e ek rv =>
    rename_i a kvs
    obtain ⟨q, rfl, rfl⟩ := keyA_of rk (by simpa [D.keyOf] using hk)
    refine ⟨_, rfl, ?_⟩
    rcases look_rel kD kD_eq ek rv q with ⟨h1, h2, h3⟩ | ⟨d, w, h1, h2, h3, h4⟩
    · exact .inl ⟨h1, by rw [← h2]; exact DGet.k e, h3⟩
    · exact .inr ⟨d, w, h1, by rw [← h2]; exact DGet.k e, h3, h4⟩
  | dT p e ek rv =>
    rename_i a kvs
    obtain ⟨q, b, rfl, hb, rfl⟩ := keyT_of rk (by simpa [D.keyOf] using hk)
    refine ⟨_, rfl, ?_⟩
    rcases look_rel (fun q : List Key => D.tup (q.map kD)) kT_eq ek rv q with ⟨h1, h2, h3⟩ | ⟨d, w, h1, h2, h3, h4⟩
    · exact .inl ⟨h1, by rw [← h2]; exact DGet.t e hb, h3⟩
    · exact .inr ⟨d, w, h1, by rw [← h2]; exact DGet.t e hb, h3, h4⟩
end

section
variable {y : Yx} {X : Cx}
def CmpOk (y : Yx) (X : Cx) (op : CmpOp) : Prop :=
  OpR X (compareOp op) (fun x z H Q => ∃ P d1 d2 b, Rp y.sa P H x d1 ∧ Rp y.sa P H z d2 ∧ dCmp op d1 d2 = some b ∧ Q (.bl b) H)
theorem scal_of {sa : Addr} {P : Addr → Prop} {H : Hp} {x z : V} {d1 d2 : D} (r1 : Rp sa P H x d1) (r2 : Rp sa P H z d2) (h : scalD d1 d2 = true) : scal x z = true ∧ decide (x = z) = D.eq d1 d2 := by
  cases r1 <;> cases r2 <;> first | (simp [scalD] at h; done) | (refine ⟨rfl, ?_⟩; simp only [D.eq]; rename_i a b; cases a <;> cases b <;> rfl) | (refine ⟨rfl, ?_⟩; simp [D.eq])
theorem any_eqv {x : D} {n m : Nat} (hx : x.ok n = true) : ∀ {l : List D}, (∀ d ∈ l, d.ok m = true) → ((D.toPs l).any fun z => PyData.eqv z x.toP) = l.any fun z => D.eq z x
  | [], _ => rfl
  | d :: l, h => by
    simp only [D.toPs, List.any_cons]
    rw [eqv_eq d x (n := m) (m := n) (h d (by simp)) hx, any_eqv hx fun e he => h e (by simp [he])]
theorem ok_eq (hu : X.A.units + 65 < cLine) : CmpOk y X .Eq := by
  intro pins s σ H x z v u Q I rx rz h
  obtain ⟨P, d1, d2, b, r1, r2, e, q⟩ := h
  simp only [dCmp, dEq] at e
  split at e
  · rename_i hc
    simp at e; subst e
    rcases Bool.or_eq_true_iff.mp hc with hc | hc
    · obtain ⟨h1, h2⟩ := scal_of r1 r2 hc
      exact op_eq pins s σ H _ _ v u Q I rx rz ⟨h1, by rw [h2]; exact q⟩
    · obtain ⟨k1, k2⟩ := Bool.and_eq_true_iff.mp hc
      exact op_eqD (by omega) pins s σ H _ _ v u Q I rx rz ⟨d1.toP, d2.toP, r1.dp k1, r2.dp k2, ok_shaped (by decide) k1, ok_shaped (by decide) k2, by rw [eqv_eq d1 d2 k1 k2]; exact q⟩
  · cases e
theorem ok_ne (hu : X.A.units + 65 < cLine) : CmpOk y X .NotEq := by
  intro pins s σ H x z v u Q I rx rz h
  obtain ⟨P, d1, d2, b, r1, r2, e, q⟩ := h
  simp only [dCmp, dEq] at e
  split at e
  · rename_i hc
    simp only [Option.map_some, Option.some.injEq] at e; subst e
    rcases Bool.or_eq_true_iff.mp hc with hc | hc
    · obtain ⟨h1, h2⟩ := scal_of r1 r2 hc
      exact op_ne pins s σ H _ _ v u Q I rx rz ⟨h1, by rw [h2]; exact q⟩
    · obtain ⟨k1, k2⟩ := Bool.and_eq_true_iff.mp hc
      exact op_neD (by omega) pins s σ H _ _ v u Q I rx rz ⟨d1.toP, d2.toP, r1.dp k1, r2.dp k2, ok_shaped (by decide) k1, ok_shaped (by decide) k2, by rw [eqv_eq d1 d2 k1 k2]; exact q⟩
  · simp at e
theorem ok_in (hu : X.A.units + 65 < cLine) : CmpOk y X .In := by
  intro pins s σ H x z v u Q I rx rz h
  obtain ⟨P, d1, d2, b, r1, r2, e, q⟩ := h
  simp only [dCmp, dIn] at e
  have room : ∀ {xs : List PyData} {d : PyData}, SeqAt.shaped d = true → X.A.units + 1 + min (PyData.depthAll xs) d.depth < cLine := fun {xs d} hd => room_in_shaped hd hu
  cases d2 <;> simp only at e <;> try (cases e; done)
  case tup l =>
    split at e
    · rename_i hc; simp at e; subst e
      obtain ⟨k1, k2⟩ := Bool.and_eq_true_iff.mp hc
      have k2' : ∀ d ∈ l, d.ok 50 = true := by simpa using k2
      have kt : D.ok 51 (.tup l) = true := by simpa [D.ok] using k2
      obtain ⟨as, q1⟩ := Dp.reads I _ _ v (r1.dp k1) rx
      obtain ⟨bs, q2⟩ := Dp.reads I (.tuple (D.toPs l)) _ u (by have := r2.dp (K := X.K) kt; simpa only [D.toP] using this) rz
      exact SeqAt.in_tuple_reads q2 q1 (ok_layL k2').1 (ok_lay k1).1 (room (ok_shaped (by decide) k1)) ⟨.bl _, H, I, rfl, by rw [any_eqv k1 k2']; exact q⟩
    · cases e
  case lst l =>
    split at e
    · rename_i hc; simp at e; subst e
      obtain ⟨k1, k2⟩ := Bool.and_eq_true_iff.mp hc
      have k2' : ∀ d ∈ l, d.ok 50 = true := by simpa using k2
      have kt : D.ok 51 (.lst l) = true := by simpa [D.ok] using k2
      obtain ⟨as, q1⟩ := Dp.reads I _ _ v (r1.dp k1) rx
      obtain ⟨bs, q2⟩ := Dp.reads I (.list (D.toPs l)) _ u (by have := r2.dp (K := X.K) kt; simpa only [D.toP] using this) rz
      exact SeqAt.in_list_reads q2 q1 (ok_layL k2').1 (ok_lay k1).1 (room (ok_shaped (by decide) k1)) ⟨.bl _, H, I, rfl, by rw [any_eqv k1 k2']; exact q⟩
    · cases e
  case dct t l =>
    split at e
    · rename_i hc; simp at e; subst e
      obtain ⟨a, rfl, hg⟩ := dct_get r2 r1 hc
      cases rz
      rcases hg with ⟨_, g, h3⟩ | ⟨d, w, _, g, h3, _⟩
      · exact d_in (by omega) I g rx fun s' I' => ⟨.bl false, H, I', rfl, by rw [h3] at q; exact q⟩
      · exact d_in (by omega) I g rx fun s' I' => ⟨.bl true, H, I', rfl, by rw [h3] at q; exact q⟩
    · cases e
theorem ok_nin (hu : X.A.units + 65 < cLine) : CmpOk y X .NotIn := by
  intro pins s σ H x z v u Q I rx rz h
  obtain ⟨P, d1, d2, b, r1, r2, e, q⟩ := h
  simp only [dCmp, dIn] at e
  have room : ∀ {xs : List PyData} {d : PyData}, SeqAt.shaped d = true → X.A.units + 1 + min (PyData.depthAll xs) d.depth < cLine := fun {xs d} hd => room_in_shaped hd hu
  cases d2 <;> simp only at e <;> try (simp at e; done)
  case tup l =>
    split at e
    · rename_i hc; simp only [Option.map_some, Option.some.injEq] at e; subst e
      obtain ⟨k1, k2⟩ := Bool.and_eq_true_iff.mp hc
      have k2' : ∀ d ∈ l, d.ok 50 = true := by simpa using k2
      have kt : D.ok 51 (.tup l) = true := by simpa [D.ok] using k2
      obtain ⟨as, q1⟩ := Dp.reads I _ _ v (r1.dp k1) rx
      obtain ⟨bs, q2⟩ := Dp.reads I (.tuple (D.toPs l)) _ u (by have := r2.dp (K := X.K) kt; simpa only [D.toP] using this) rz
      exact SeqAt.notIn_tuple_reads q2 q1 (ok_layL k2').1 (ok_lay k1).1 (room (ok_shaped (by decide) k1)) ⟨.bl _, H, I, rfl, by rw [any_eqv k1 k2']; exact q⟩
    · simp at e
  case lst l =>
    split at e
    · rename_i hc; simp only [Option.map_some, Option.some.injEq] at e; subst e
      obtain ⟨k1, k2⟩ := Bool.and_eq_true_iff.mp hc
      have k2' : ∀ d ∈ l, d.ok 50 = true := by simpa using k2
      have kt : D.ok 51 (.lst l) = true := by simpa [D.ok] using k2
      obtain ⟨as, q1⟩ := Dp.reads I _ _ v (r1.dp k1) rx
      obtain ⟨bs, q2⟩ := Dp.reads I (.list (D.toPs l)) _ u (by have := r2.dp (K := X.K) kt; simpa only [D.toP] using this) rz
      exact SeqAt.notIn_list_reads q2 q1 (ok_layL k2').1 (ok_lay k1).1 (room (ok_shaped (by decide) k1)) ⟨.bl _, H, I, rfl, by rw [any_eqv k1 k2']; exact q⟩
    · simp at e
  case dct t l =>
    split at e
    · rename_i hc; simp only [Option.map_some, Option.some.injEq] at e; subst e
      obtain ⟨a, rfl, hg⟩ := dct_get r2 r1 hc
      cases rz
      rcases hg with ⟨_, g, h3⟩ | ⟨d, w, _, g, h3, _⟩
      · exact d_notIn (by omega) I g rx fun s' I' => ⟨.bl true, H, I', rfl, by rw [h3] at q; exact q⟩
      · exact d_notIn (by omega) I g rx fun s' I' => ⟨.bl false, H, I', rfl, by rw [h3] at q; exact q⟩
    · simp at e
theorem ok_int {op : CmpOp} {f : Int → Int → Bool} (ho : OpR X (compareOp op) (rI0 fun i j => .bl (f i j))) (h1 : ∀ d1 d2 b, dCmp op d1 d2 = some b → ∃ i j, d1 = .int i ∧ d2 = .int j ∧ b = f i j) : CmpOk y X op := by
  intro pins s σ H x z v u Q I rx rz h
  obtain ⟨P, d1, d2, b, r1, r2, e, q⟩ := h
  obtain ⟨i, j, rfl, rfl, rfl⟩ := h1 d1 d2 b e
  cases r1; cases r2
  exact ho pins s σ H _ _ v u Q I rx rz ⟨i, j, rfl, rfl, q⟩
theorem ok_lt : CmpOk y X .Lt := ok_int op_lt fun d1 d2 b e => by
  cases d1 <;> cases d2 <;> simp [dCmp] at e
  exact ⟨_, _, rfl, rfl, e.symm⟩
theorem ok_le : CmpOk y X .LtE := ok_int op_le fun d1 d2 b e => by
  cases d1 <;> cases d2 <;> simp [dCmp] at e
  exact ⟨_, _, rfl, rfl, e.symm⟩
theorem ok_gt : CmpOk y X .Gt := ok_int op_gt fun d1 d2 b e => by
  cases d1 <;> cases d2 <;> simp [dCmp] at e
  exact ⟨_, _, rfl, rfl, e.symm⟩
theorem ok_ge : CmpOk y X .GtE := ok_int op_ge fun d1 d2 b e => by
  cases d1 <;> cases d2 <;> simp [dCmp] at e
  exact ⟨_, _, rfl, rfl, e.symm⟩
theorem isNon_of {sa : Addr} {P : Addr → Prop} {H : Hp} {x : V} {d : D} (r : Rp sa P H x d) : decide (x = .non) = d.isNon := by
  cases r <;> simp [D.isNon]
theorem ok_is : CmpOk y X .Is := by
  intro pins s σ H x z v u Q I rx rz h
  obtain ⟨P, d1, d2, b, r1, r2, e, q⟩ := h
  cases d2 <;> try (simp [dCmp] at e; done)
  simp only [dCmp, Option.some.injEq] at e
  subst e
  cases r2
  exact op_isN pins s σ H _ _ v u Q I rx rz ⟨rfl, by rw [isNon_of r1]; exact q⟩
theorem ok_isn : CmpOk y X .IsNot := by
  intro pins s σ H x z v u Q I rx rz h
  obtain ⟨P, d1, d2, b, r1, r2, e, q⟩ := h
  cases d2 <;> try (simp [dCmp] at e; done)
  simp only [dCmp, Option.some.injEq] at e
  subst e
  cases r2
  exact op_notN pins s σ H _ _ v u Q I rx rz ⟨rfl, by rw [isNon_of r1]; exact q⟩
theorem ok_cmp (hu : X.A.units + 65 < cLine) (op : CmpOp) : CmpOk y X op := by
  cases op with
  | Eq => exact ok_eq hu
  | NotEq => exact ok_ne hu
  | Lt => exact ok_lt
  | LtE => exact ok_le
  | Gt => exact ok_gt
  | GtE => exact ok_ge
  | Is => exact ok_is
  | IsNot => exact ok_isn
  | In => exact ok_in hu
  | NotIn => exact ok_nin hu
/-! ### truth -/
theorem tru_of {K : PySem.W.Frag} {sa : Addr} {P : Addr → Prop} {H : Hp} {x : V} {d : D} {b : Bool} (r : Rp sa P H x d) (e : dTruth d = some b) : TruV K x H b := by
  cases r with
  | non => simp [dTruth] at e; subst e; rfl
  | bl b => simp [dTruth] at e; subst e; rfl
  | int i => simp [dTruth] at e; subst e; rfl
  | str x =>
    simp only [dTruth] at e
    split at e
    · rename_i h; simp at e; subst e
      refine ⟨big_le h, ?_⟩
      have e0 : ((x.length : Int) != 0) = (x.length != 0) := by
        by_cases h0 : x.length = 0
        · rw [h0]; rfl
        · rw [bne_iff_ne.mpr h0, bne_iff_ne.mpr (by omega : (x.length : Int) ≠ 0)]
      exact e0.symm
    · cases e
  | tup h r =>
    simp only [dTruth, Option.some.injEq] at e; subst e
    refine .inr (.inl ⟨_, SqT.of h, ?_⟩)
    cases r <;> rfl
  | lst p h r =>
    simp only [dTruth, Option.some.injEq] at e; subst e
    refine .inl ⟨_, SqL.of h, ?_⟩
    cases r <;> rfl
  | _ => simp [dTruth] at e
/-! ### subscripts -/
theorem ixN_lt {n j : Nat} {i : Int} (h : ixN n i = some j) : j < n := (ixN_seq h).2.1
theorem atI_rel {sa : Addr} {P : Addr → Prop} {H : Hp} {vs : List V} {l : List D} {i : Int} {d : D} (r : RpL sa P H vs l) (e : atI l i = some d) : ∃ v, atI vs i = some v ∧ Rp sa P H v d := by
  unfold atI at e ⊢
  obtain ⟨j, h1, h2⟩ := Option.bind_eq_some_iff.mp e
  obtain ⟨v, h3, h4⟩ := r.get h2
  refine ⟨v, ?_, h4⟩
  rw [r.length, h1]
  simpa using h3
def IxOk (y : Yx) (X : Cx) : Prop :=
  IxR X (fun x z H Q => ∃ P d1 d2 d, Rp y.sa P H x d1 ∧ Rp y.sa P H z d2 ∧ dIdx d1 d2 = some d ∧ PostX y.sa 0 P H Q d)
theorem ok_ix (hu : X.A.units + 65 < cLine) : IxOk y X := by
  intro value slice pins s σ H x z v u Q I rx rz h hs
  obtain ⟨P, d1, d2, d, r1, r2, e, q⟩ := h
  cases d1 <;> try (simp [dIdx] at e; done)
  case tup l =>
    cases d2 <;> try (simp [dIdx] at e; done)
    rename_i i
    simp only [dIdx] at e
    cases r1 with
    | tup h1 rl =>
      cases r2
      obtain ⟨w, h2, h3⟩ := atI_rel rl e
      exact ix_tup value slice pins s σ H _ _ v u Q I rx rz ⟨_, _, i, w, rfl, rfl, SqT.of h1, h2, q.here0 h3⟩ hs
  case lst l =>
    cases d2 <;> try (simp [dIdx] at e; done)
    rename_i i
    simp only [dIdx] at e
    cases r1 with
    | lst p h1 rl =>
      cases r2
      obtain ⟨w, h2, h3⟩ := atI_rel rl e
      exact ix_list value slice pins s σ H _ _ v u Q I rx rz ⟨_, _, i, w, rfl, rfl, SqL.of h1, h2, q.here0 h3⟩ hs
  case dct t l =>
    simp only [dIdx] at e
    split at e
    · rename_i hk
      obtain ⟨a, rfl, hg⟩ := dct_get r1 r2 hk
      cases rx
      rcases hg with ⟨h1, _, _⟩ | ⟨d', w, h1, g, _, h4⟩
      · rw [h1] at e; cases e
      · rw [h1] at e; cases e
        exact tail_any (dict_typeIs I g) PySem.F.slot_dict_getitem.lookup (d_getItem (by omega) I g rz fun w' s' I' rw' => ⟨w, H, I', rw', q.here0 h4⟩) hs
    · cases e
theorem cut_rel {sa : Addr} {P : Addr → Prop} {H : Hp} {vs : List V} {l : List D} {lo hi : Option Int} (r : RpL sa P H vs l) : RpL sa P H (cutV vs lo hi) (cut l lo hi) := by
  unfold cutV cut
  rw [r.length]
  exact (r.drop _).take _
theorem cut_all {α : Type} {xs : List α} {lo hi : Option Int} (h : HT.sIx xs.length 0 lo = 0 ∧ HT.sIx xs.length xs.length hi = xs.length) : cut xs lo hi = xs := by
  unfold cut
  rw [h.1, h.2]; simp
def SlOk (y : Yx) (X : Cx) : Prop :=
  SlR X (fun x lo hi H Q => ∃ P d1 d, Rp y.sa P H x d1 ∧ dSlice d1 lo hi = some d ∧ PostX y.sa 1 P H Q d)
theorem ok_sl : SlOk y X := by
  intro pins s σ H x v vl vu lo hi sl Q I rx hs pl pu h
  obtain ⟨P, d1, d, r1, e, q⟩ := h
  cases r1 <;> try (simp [dSlice] at e; done)
  case tup a vs l h1 r =>
    simp only [dSlice, Option.some.injEq] at e; subst e
    refine sl_tupA pins s σ H _ v vl vu lo hi sl Q I rx hs pl pu ⟨a, vs, rfl, SqT.of h1, fun hw => ?_, fun hw p hp => q.newT hp (cut_rel r)⟩
    have : cut l lo hi = l := cut_all (by rw [← r.length]; exact hw)
    rw [this] at q
    exact q.here rfl (.tup h1 r)
  case lst a vs l p h1 r =>
    simp only [dSlice, Option.some.injEq] at e; subst e
    exact sl_list pins s σ H _ v vl vu lo hi sl Q I rx hs pl pu ⟨a, vs, rfl, SqL.of h1, fun p hp => q.newL hp (cut_rel r)⟩
end
end Lt

/-! Lt: built-in functions, by values. -/
namespace Lt
open PySem PySem.Spec PyProof.Rows L2

def CallOk (y : Yx) (X : Cx) (f : Value) (g : Bi) (k : Nat) : Prop :=
  CallR X f (fun vs H Q => ∃ P ds d, RpL y.sa P H vs ds ∧ g ds = some d ∧ PostX y.sa k P H Q d)
section
variable {sa : Addr} {P : Addr → Prop} {H : Hp}
theorem rpl1 {vs : List V} {d : D} (h : RpL sa P H vs [d]) : ∃ v, vs = [v] ∧ Rp sa P H v d := by
  cases h with
  | cons r rs => cases rs; exact ⟨_, rfl, r⟩
theorem rpl2 {vs : List V} {d e : D} (h : RpL sa P H vs [d, e]) : ∃ v w, vs = [v, w] ∧ Rp sa P H v d ∧ Rp sa P H w e := by
  cases h with
  | cons r rs => cases rs with
    | cons r2 rs => cases rs; exact ⟨_, _, rfl, r, r2⟩
end
section
variable {y : Yx} {X : Cx}
theorem ok_len : CallOk y X (.builtin "len") bLen 1 := by
  intro pins s σ H vs us Q I r h
  obtain ⟨P, ds, d, rl, e, p⟩ := h
  unfold bLen at e
  split at e
  · rename_i l
    cases e
    obtain ⟨v, rfl, rv⟩ := rpl1 rl
    cases rv with
    | lst pa ha rl => exact call_len_seq pins s σ H _ us Q I r ⟨_, _, rfl, .inl (SqL.of ha), by rw [rl.length]; exact p.here rfl (.int _)⟩
  · rename_i l
    cases e
    obtain ⟨v, rfl, rv⟩ := rpl1 rl
    cases rv with
    | tup ha rl => exact call_len_seq pins s σ H _ us Q I r ⟨_, _, rfl, .inr (SqT.of ha), by rw [rl.length]; exact p.here rfl (.int _)⟩
  · rename_i x
    split at e
    · rename_i hz
      cases e
      obtain ⟨v, rfl, rv⟩ := rpl1 rl
      cases rv
      exact call_len_str pins s σ H _ us Q I r ⟨_, rfl, big_le hz, p.here rfl (.int _)⟩
    · cases e
  · cases e
theorem ok_tuple : CallOk y X (.type "tuple") bTuple 1 := by
  intro pins s σ H vs us Q I r h
  obtain ⟨P, ds, d, rl, e, p⟩ := h
  unfold bTuple at e
  split at e
  · rename_i l
    cases e
    obtain ⟨v, rfl, rv⟩ := rpl1 rl
    cases rv with
    | lst pa ha rl => exact call_tuple_of pins s σ H _ us Q I r ⟨_, _, rfl, .inl ⟨SqL.of ha, fun q hq => p.newT hq rl⟩⟩
  · rename_i l
    cases e
    obtain ⟨v, rfl, rv⟩ := rpl1 rl
    cases rv with
    | tup ha rl => exact call_tuple_of pins s σ H _ us Q I r ⟨_, _, rfl, .inr ⟨SqT.of ha, p.here rfl (.tup ha rl)⟩⟩
  · cases e
theorem kV_rp {P : Addr → Prop} {H : Hp} (k : Key) : Rp y.sa P H (kV k) (kD k) := by
  cases k with
  | inl i => exact .int i
  | inr x => exact .str x
theorem kVs_rp {P : Addr → Prop} {H : Hp} : ∀ (ks : List Key), RpL y.sa P H (ks.map kV) (ks.map kD)
  | [] => .nil
  | k :: ks => .cons (kV_rp k) (kVs_rp ks)
theorem keysK_rp {P : Addr → Prop} {H : Hp} : ∀ {kvs : List (Key × V)} {l : List (D × D)}, l.map (·.1) = kvs.map (fun p => kD p.1) → RpL y.sa P H (kvs.map fun kv => kV kv.1) (l.map (·.1))
  | kvs, l, e => by
    rw [e]
    have := kVs_rp (y := y) (P := P) (H := H) (kvs.map (·.1))
    rw [List.map_map, List.map_map] at this
    exact this
theorem keysT_rp {P : Addr → Prop} {H : Hp} : ∀ {kvs : List (List Key × V)} {bs : List Addr} {l : List (D × D)}, l.map (·.1) = kvs.map (fun p => D.tup (p.1.map kD)) → IsKeys H kvs bs → RpL y.sa P H (bs.map V.ref) (l.map (·.1))
  | kvs, bs, l, e, h => by
    rw [e]; clear e
    unfold IsKeys at h
    induction h with
    | nil => exact .nil
    | cons h t ih => exact .cons (.tup h (kVs_rp _)) ih
theorem ok_list (hc : X.calm = true) : CallOk y X (.type "list") bList 1 := by
  intro pins s σ H vs us Q I r h
  obtain ⟨P, ds, d, rl, e, p⟩ := h
  unfold bList at e
  split at e
  · rename_i l
    cases e
    obtain ⟨v, rfl, rv⟩ := rpl1 rl
    cases rv with
    | lst pa ha rl => exact call_list_of pins s σ H _ us Q I r ⟨_, _, rfl, .inl (SqL.of ha), fun q hq => p.newL hq rl⟩
  · rename_i l
    cases e
    obtain ⟨v, rfl, rv⟩ := rpl1 rl
    cases rv with
    | tup ha rl => exact call_list_of pins s σ H _ us Q I r ⟨_, _, rfl, .inr (SqT.of ha), fun q hq => p.newL hq rl⟩
  · rename_i t l
    cases e
    obtain ⟨v, rfl, rv⟩ := rpl1 rl
    cases rv with
    | dK pa ha ek rl => exact call_list_dK hc pins s σ H _ us Q I r ⟨_, _, rfl, ha, fun q hq => p.newL hq (keysK_rp ek)⟩
    | dT pa ha ek rl => exact call_list_dT hc pins s σ H _ us Q I r ⟨_, _, rfl, .of ha, fun q bs hq hb => p.newL hq (keysT_rp ek hb)⟩
  · cases e
theorem ok_sum (hc : X.calm = true) : CallOk y X (.builtin "sum") bSum 1 := by
  intro pins s σ H vs us Q I r h
  obtain ⟨P, ds, d, rl, e, p⟩ := h
  unfold bSum at e
  split at e
  · rename_i l
    obtain ⟨ns, e1, rfl⟩ := Option.map_eq_some_iff.mp e
    obtain ⟨v, rfl, rv⟩ := rpl1 rl
    cases rv with
    | lst pa ha rl =>
      have := rl.ints e1
      subst this
      exact cr_sum hc pins s σ H _ us Q I r ⟨_, ns, rfl, SqL.of ha, p.here rfl (.int _)⟩
  · cases e
theorem ok_int1 : CallOk y X (.type "int") bInt 1 := by
  intro pins s σ H vs us Q I r h
  obtain ⟨P, ds, d, rl, e, p⟩ := h
  unfold bInt at e
  split at e
  · cases e
    obtain ⟨v, rfl, rv⟩ := rpl1 rl
    cases rv
    exact call_int1 pins s σ H _ us Q I r (.inl ⟨_, rfl, p.here rfl (.int _)⟩)
  · cases e
    obtain ⟨v, rfl, rv⟩ := rpl1 rl
    cases rv
    exact call_int1 pins s σ H _ us Q I r (.inr ⟨_, rfl, p.here rfl (.int _)⟩)
  · cases e
theorem ok_abs : CallOk y X (.builtin "abs") bAbs 1 := by
  intro pins s σ H vs us Q I r h
  obtain ⟨P, ds, d, rl, e, p⟩ := h
  unfold bAbs at e
  split at e
  · cases e
    obtain ⟨v, rfl, rv⟩ := rpl1 rl
    cases rv
    exact call_abs pins s σ H _ us Q I r ⟨_, rfl, p.here rfl (.int _)⟩
  · cases e
theorem ok_max (hc : X.calm = true) : CallOk y X (.builtin "max") bMax 1 := by
  intro pins s σ H vs us Q I r h
  obtain ⟨P, ds, d, rl, e, p⟩ := h
  unfold bMax at e
  split at e
  · cases e
    obtain ⟨v, w, rfl, rv, rw'⟩ := rpl2 rl
    cases rv; cases rw'
    exact call_max2 hc pins s σ H _ us Q I r ⟨_, _, rfl, p.here rfl (.int _)⟩
  · cases e
theorem ok_min (hc : X.calm = true) : CallOk y X (.builtin "min") bMin 1 := by
  intro pins s σ H vs us Q I r h
  obtain ⟨P, ds, d, rl, e, p⟩ := h
  unfold bMin at e
  split at e
  · cases e
    obtain ⟨v, w, rfl, rv, rw'⟩ := rpl2 rl
    cases rv; cases rw'
    exact call_min2 hc pins s σ H _ us Q I r ⟨_, _, rfl, p.here rfl (.int _)⟩
  · cases e

/-! ### any, all, of numbers and truth values in a list or a tuple -/
abbrev TruAt (prog : Program) (w : World) (A : Around) (E : Value → Shared → Prop) (its : List Value) (bs : List Bool) : Prop :=
  its.length = bs.length ∧ ∀ (i : Nat) (v : Value) (s : Shared) (Q : Bool → Shared → Prop), its[i]? = some v → Q (bs.getD i false) s → wpAny (model prog w) A (truthy v) Q E s
theorem TruAt.cons {prog : Program} {w : World} {A : Around} {E : Value → Shared → Prop} {its : List Value} {bs : List Bool} (h : TruAt prog w A E its bs) {u : Value} {b : Bool}
    (ht : ∀ (s : Shared) (Q : Bool → Shared → Prop), Q b s → wpAny (model prog w) A (truthy u) Q E s) : TruAt prog w A E (u :: its) (b :: bs) := by
  refine ⟨by simp [h.1], fun i v s Q e hq => ?_⟩
  cases i with
  | zero => simp at e; subst e; exact ht s Q (by simpa using hq)
  | succ i => exact h.2 i v s Q (by simpa using e) (by simpa using hq)
theorem tru_at {prog : Program} {w : World} {A : Around} {sa : Addr} {P : Addr → Prop} {H : Hp} {E : Value → Shared → Prop} : ∀ {l : List D} {vs : List V} {its : List Value} {bs : List Bool}, RpL sa P H vs l → Vals vs its → D.trus l = some bs → TruAt prog w A E its bs
  | [], _, _, bs, rl, rv, hb => by
    cases rl; cases rv; simp [D.trus] at hb; subst hb
    exact ⟨rfl, fun i v s Q e => by simp at e⟩
  | d :: l, _, _, bs, rl, rv, hb => by
    cases rl with
    | cons r rs => cases rv with
      | cons q qs =>
        cases r with
        | non =>
          simp only [D.trus, Option.map_eq_some_iff] at hb
          obtain ⟨bs', e1, rfl⟩ := hb
          cases q
          exact (tru_at rs qs e1).cons fun s Q hq => truthy_none hq
        | bl b =>
          simp only [D.trus, Option.map_eq_some_iff] at hb
          obtain ⟨bs', e1, rfl⟩ := hb
          cases q
          exact (tru_at rs qs e1).cons fun s Q hq => wpAny_truthy_bool hq
        | int i =>
          simp only [D.trus, Option.map_eq_some_iff] at hb
          obtain ⟨bs', e1, rfl⟩ := hb
          obtain ⟨t, rfl⟩ := q
          exact (tru_at rs qs e1).cons fun s Q hq => PySem.P.truthy_int hq
        | _ => simp [D.trus] at hb
theorem ok_any (hc : X.calm = true) : CallOk y X (.builtin "any") bAny 1 := by
  intro pins s σ H vs us Q I r h
  obtain ⟨P, ds, d, rl, e, p⟩ := h
  unfold bAny at e
  split at e
  · rename_i l
    obtain ⟨bs, e1, rfl⟩ := Option.map_eq_some_iff.mp e
    obtain ⟨v, rfl, rv⟩ := rpl1 rl
    cases rv with
    | lst pa ha rl =>
      obtain ⟨its, rv, hl, _⟩ := I.list (SqL.of ha)
      rw [Vals.ref1 r]
      refine call_any_walk (iter_any hl.isList fun s₂ e2 st hne => ?_)
      subst e2
      refine ⟨_, _, _, _, _, _, _, rfl, Walks.list (A := X.A.in1) (I.ok.hd hc) _ _ hne its.toArray, st, (fun i v s Q E hv hq => (tru_at rl rv e1).2 i v s Q (by simpa using hv) hq : TruthOf X.prog X.w X.A.in1 _ fun i => bs.getD i false), fun h' tk hk => ?_⟩
      refine ⟨.bl _, H, I.kept fun b o eo => hk b o (fun hmem => ?_) (Heap.get?_push_of_some _ eo), ?_, p.here rfl (.bl _)⟩
      · rcases List.mem_cons.mp hmem with e1 | hmem
        · exact absurd (e1 ▸ Heap.lt_size eo) (Nat.lt_irrefl _)
        · cases hmem
      · show Value.bool _ = Value.bool _
        rw [← L2.any_range, List.size_toArray, (tru_at (prog := X.prog) (w := X.w) (A := X.A) (E := fun _ _ => True) rl rv e1).1]
  · rename_i l
    obtain ⟨bs, e1, rfl⟩ := Option.map_eq_some_iff.mp e
    obtain ⟨v, rfl, rv⟩ := rpl1 rl
    cases rv with
    | tup ha rl =>
      obtain ⟨its, rv, ht, _⟩ := I.tuple (SqT.of ha)
      rw [Vals.ref1 r]
      have hlt := ht.lt
      refine call_any_walk (wpAny_pyIter_tuple ht ?_)
      refine ⟨_, _, _, _, _, _, _, rfl, Walks.tuple (A := X.A.in1) (I.ok.hd hc) _ _ (Nat.ne_of_lt hlt) its.toArray, ⟨⟨_, Heap.get?_push_size _ rfl, rfl, rfl⟩, (show s.heap.IsTuple _ its.toArray from ht).at fun o e => Heap.get?_push_of_some _ e⟩,
        (fun i v s Q E hv hq => (tru_at rl rv e1).2 i v s Q (by simpa using hv) hq : TruthOf X.prog X.w X.A.in1 _ fun i => bs.getD i false), fun h' tk hk => ?_⟩
      refine ⟨.bl _, H, I.kept fun b o eo => hk b o (fun hmem => ?_) (Heap.get?_push_of_some _ eo), ?_, p.here rfl (.bl _)⟩
      · rcases List.mem_cons.mp hmem with e1 | hmem
        · exact absurd (e1 ▸ Heap.lt_size eo) (Nat.lt_irrefl _)
        · cases hmem
      · show Value.bool _ = Value.bool _
        rw [← L2.any_range, List.size_toArray, (tru_at (prog := X.prog) (w := X.w) (A := X.A) (E := fun _ _ => True) rl rv e1).1]
  · cases e
theorem ok_all (hc : X.calm = true) : CallOk y X (.builtin "all") bAll 1 := by
  intro pins s σ H vs us Q I r h
  obtain ⟨P, ds, d, rl, e, p⟩ := h
  unfold bAll at e
  split at e
  · rename_i l
    obtain ⟨bs, e1, rfl⟩ := Option.map_eq_some_iff.mp e
    obtain ⟨v, rfl, rv⟩ := rpl1 rl
    cases rv with
    | lst pa ha rl =>
      obtain ⟨its, rv, hl, _⟩ := I.list (SqL.of ha)
      rw [Vals.ref1 r]
      refine call_all_walk (iter_any hl.isList fun s₂ e2 st hne => ?_)
      subst e2
      refine ⟨_, _, _, _, _, _, _, rfl, Walks.list (A := X.A.in1) (I.ok.hd hc) _ _ hne its.toArray, st, (fun i v s Q E hv hq => (tru_at rl rv e1).2 i v s Q (by simpa using hv) hq : TruthOf X.prog X.w X.A.in1 _ fun i => bs.getD i false), fun h' tk hk => ?_⟩
      refine ⟨.bl _, H, I.kept fun b o eo => hk b o (fun hmem => ?_) (Heap.get?_push_of_some _ eo), ?_, p.here rfl (.bl _)⟩
      · rcases List.mem_cons.mp hmem with e1 | hmem
        · exact absurd (e1 ▸ Heap.lt_size eo) (Nat.lt_irrefl _)
        · cases hmem
      · show Value.bool _ = Value.bool _
        rw [← L2.all_range, List.size_toArray, (tru_at (prog := X.prog) (w := X.w) (A := X.A) (E := fun _ _ => True) rl rv e1).1]
  · rename_i l
    obtain ⟨bs, e1, rfl⟩ := Option.map_eq_some_iff.mp e
    obtain ⟨v, rfl, rv⟩ := rpl1 rl
    cases rv with
    | tup ha rl =>
      obtain ⟨its, rv, ht, _⟩ := I.tuple (SqT.of ha)
      rw [Vals.ref1 r]
      have hlt := ht.lt
      refine call_all_walk (wpAny_pyIter_tuple ht ?_)
      refine ⟨_, _, _, _, _, _, _, rfl, Walks.tuple (A := X.A.in1) (I.ok.hd hc) _ _ (Nat.ne_of_lt hlt) its.toArray, ⟨⟨_, Heap.get?_push_size _ rfl, rfl, rfl⟩, (show s.heap.IsTuple _ its.toArray from ht).at fun o e => Heap.get?_push_of_some _ e⟩,
        (fun i v s Q E hv hq => (tru_at rl rv e1).2 i v s Q (by simpa using hv) hq : TruthOf X.prog X.w X.A.in1 _ fun i => bs.getD i false), fun h' tk hk => ?_⟩
      refine ⟨.bl _, H, I.kept fun b o eo => hk b o (fun hmem => ?_) (Heap.get?_push_of_some _ eo), ?_, p.here rfl (.bl _)⟩
      · rcases List.mem_cons.mp hmem with e1 | hmem
        · exact absurd (e1 ▸ Heap.lt_size eo) (Nat.lt_irrefl _)
        · cases hmem
      · show Value.bool _ = Value.bool _
        rw [← L2.all_range, List.size_toArray, (tru_at (prog := X.prog) (w := X.w) (A := X.A) (E := fun _ _ => True) rl rv e1).1]
  · cases e

/-! ### sorted -/
open PySem.W in
theorem toPs_map : ∀ l : List D, D.toPs l = l.map D.toP
  | [] => rfl
  | d :: l => by simp [D.toPs, toPs_map l]
theorem ints_alike : ∀ (l m : List D), l.all D.isInt = true → m.all D.isInt = true → PySem.W.alikeAll (D.toPs l) (D.toPs m) = true
  | [], _, _, _ => by simp [D.toPs, PySem.W.alikeAll]
  | _ :: _, [], _, _ => by simp [D.toPs, PySem.W.alikeAll]
  | d :: l, e :: m, h, h' => by
    rw [List.all_cons, Bool.and_eq_true] at h h'
    obtain ⟨h1, h2⟩ := h
    obtain ⟨h1', h2'⟩ := h'
    cases d <;> try (cases h1; done)
    cases e <;> try (cases h1'; done)
    simp only [D.toPs, D.toP, PySem.W.alikeAll, PySem.W.alike, Bool.true_and]
    exact ints_alike l m h2 h2'
theorem sortable_ok {l : List D} (h : sortable l = true) : PySem.W.AllAlike (l.map D.toP) ∧ PySem.W.Sortable (l.map D.toP) ∧ (∀ d ∈ l, d.ok 3 = true) := by
  rcases Bool.or_eq_true_iff.mp h with h | h
  · have h' : ∀ d ∈ l, d.isInt = true := by simpa using h
    have hi : ∀ d ∈ l, ∃ i, d = .int i := fun d hd => by
      have := h' d hd
      cases d <;> simp [D.isInt] at this
      exact ⟨_, rfl⟩
    refine ⟨fun d hd d' hd' => ?_, .inr fun d hd => ?_, fun d hd => ?_⟩
    · obtain ⟨e, he, rfl⟩ := List.mem_map.mp hd
      obtain ⟨e', he', rfl⟩ := List.mem_map.mp hd'
      obtain ⟨i, rfl⟩ := hi e he
      obtain ⟨j, rfl⟩ := hi e' he'
      simp [D.toP, PySem.W.alike]
    · obtain ⟨e, he, rfl⟩ := List.mem_map.mp hd
      obtain ⟨i, rfl⟩ := hi e he
      simp [D.toP]
    · obtain ⟨i, rfl⟩ := hi d hd
      rfl
  · have h' : ∀ d ∈ l, d.isIntT = true := by simpa using h
    have hi : ∀ d ∈ l, ∃ x m, d = .tup (x :: m) ∧ x.isInt = true ∧ m.all D.isInt = true := fun d hd => by
      have := h' d hd
      unfold D.isIntT at this
      split at this
      · exact ⟨_, _, rfl, (Bool.and_eq_true_iff.mp this).1, (Bool.and_eq_true_iff.mp this).2⟩
      · cases this
    refine ⟨fun d hd d' hd' => ?_, .inl fun d hd => ?_, fun d hd => ?_⟩
    · obtain ⟨e, he, rfl⟩ := List.mem_map.mp hd
      obtain ⟨e', he', rfl⟩ := List.mem_map.mp hd'
      obtain ⟨x, m, rfl, h1, h2⟩ := hi e he
      obtain ⟨x', m', rfl, h1', h2'⟩ := hi e' he'
      simp only [D.toP, PySem.W.alike]
      exact ints_alike (x :: m) (x' :: m') (by rw [List.all_cons, h1, h2]; rfl) (by rw [List.all_cons, h1', h2']; rfl)
    · obtain ⟨e, he, rfl⟩ := List.mem_map.mp hd
      obtain ⟨x, m, rfl, h1, h2⟩ := hi e he
      exact ⟨x.toP, D.toPs m, by simp [D.toP, D.toPs]⟩
    · obtain ⟨x, m, rfl, h1, h2⟩ := hi d hd
      have hx : ∀ z : D, z.isInt = true → z.ok 2 = true := fun z hz => by cases z <;> simp [D.isInt] at hz; rfl
      simp only [D.ok, List.all_cons, Bool.and_eq_true]
      refine ⟨hx x h1, ?_⟩
      rw [List.all_eq_true] at h2 ⊢
      exact fun z hz => hx z (h2 z hz)
theorem each_of {sa : Addr} {P : Addr → Prop} {H : Hp} : ∀ {vs : List V} {l : List D} {its : List Value}, RpL sa P H vs l → Vals vs its → PySem.W.EachIs (fun (v : Value) (p : V × D) => RelV p.1 v) its (vs.zip l)
  | _, _, _, .nil, .nil => .nil
  | _, _, _, .cons _ rs, .cons q qs => .cons q (each_of rs qs)
theorem each_reads {sa : Addr} {P : Addr → Prop} {pins : List (Addr × Obj)} {s : Shared} {σ : L2.St} {H : Hp} {n : Nat} (I : Inv X pins σ H s) : ∀ {vs : List V} {l : List D} {its : List Value}, RpL sa P H vs l → Vals vs its → (∀ d ∈ l, d.ok n = true) →
    PySem.W.EachIs (fun (v : Value) (p : V × D) => ∃ as, Reads s.heap v p.2.toP as) its (vs.zip l)
  | _, _, _, .nil, .nil, _ => .nil
  | _, _, _, .cons r rs, .cons q qs, h => .cons (Dp.reads I _ _ _ (r.dp (n := n) (h _ (by simp))) q) (each_reads I rs qs fun d hd => h d (by simp [hd]))
theorem zip_mem {sa : Addr} {P : Addr → Prop} {H : Hp} : ∀ {vs : List V} {l : List D}, RpL sa P H vs l → ∀ p ∈ vs.zip l, Rp sa P H p.1 p.2
  | _, _, .nil, p, hp => by simp at hp
  | _, _, .cons r rs, p, hp => by
    rw [List.zip_cons_cons, List.mem_cons] at hp
    rcases hp with rfl | hp
    · exact r
    · exact zip_mem rs p hp
theorem rpl_pairs {sa : Addr} {P : Addr → Prop} {H : Hp} : ∀ {bs : List (V × D)}, (∀ p ∈ bs, Rp sa P H p.1 p.2) → RpL sa P H (bs.map (·.1)) (bs.map (·.2))
  | [], _ => .nil
  | p :: bs, h => .cons (h p (by simp)) (rpl_pairs fun q hq => h q (by simp [hq]))
theorem each_vals : ∀ {out : List Value} {bs : List (V × D)}, PySem.W.EachIs (fun (v : Value) (p : V × D) => RelV p.1 v) out bs → Vals (bs.map (·.1)) out
  | _, _, .nil => .nil
  | _, _, .cons r rs => .cons r (each_vals rs)
theorem ok_sorted (hu : X.A.units + 65 < cLine) : CallOk y X (.builtin "sorted") bSorted 1 := by
  intro pins s σ H vs us Q I r h
  obtain ⟨P, ds, d, rl, e, p⟩ := h
  unfold bSorted at e
  split at e
  · rename_i l
    split at e
    · rename_i hs
      cases e
      obtain ⟨v, rfl, rv⟩ := rpl1 rl
      cases rv with
      | @lst a vs l pa ha rl =>
        obtain ⟨its, rv, hl, hz⟩ := I.list (SqL.of ha)
        rw [Vals.ref1 r]
        obtain ⟨h1, h2, h3⟩ := sortable_ok hs
        have ezl := rl.length
        have es : (vs.zip l).map Prod.snd = l := List.map_snd_zip (by rw [ezl]; exact Nat.le_refl _)
        have e2 : (vs.zip l).map (fun p => p.2.toP) = l.map D.toP := by
          have : (vs.zip l).map (fun p => p.2.toP) = ((vs.zip l).map Prod.snd).map D.toP := by rw [List.map_map]; rfl
          rw [this, es]
        refine PySem.W.sorted_data (bs := vs.zip l) (enc := fun p => p.2.toP) (R := fun v p => RelV p.1 v) hl.isList (each_of rl rv) (each_reads (n := 3) I rl rv h3) (by rw [e2]; exact h1) (by rw [e2]; exact h2) ?_ (fun b hb => ?_) fun out hlen hout => ?_
        · rw [List.length_zip, ezl, Nat.min_self, ← ezl]; exact hz
        · have := (ok_lay (h3 b.2 (List.of_mem_zip hb).2)).2
          omega
        · obtain ⟨ep, he'⟩ := PyProof.Rows.sortedAll_at s.heap its out.toArray
          have hp : ((vs.zip l).mergeSort (PySem.W.dataLe false fun p => p.2.toP)).Perm (vs.zip l) := List.mergeSort_perm _ _
          have hr : RpL y.sa P H (((vs.zip l).mergeSort (PySem.W.dataLe false fun p => p.2.toP)).map (·.1)) (((vs.zip l).mergeSort (PySem.W.dataLe false fun p => p.2.toP)).map (·.2)) :=
            rpl_pairs fun q hq => zip_mem rl q (hp.mem_iff.mp hq)
          have e3 : ((vs.zip l).mergeSort (PySem.W.dataLe false fun p => p.2.toP)).map (·.2) = l.mergeSort dLe := by
            exact (PySem.W.sort_maps (r := PySem.W.dataLe false fun p : V × D => p.2.toP) (s := dLe) (fun p : V × D => p.2) (l := vs.zip l) fun _ _ _ _ => rfl).trans (congrArg (fun z => List.mergeSort z dLe) es)
          rw [e3] at hr
          have hl' : (((vs.zip l).mergeSort (PySem.W.dataLe false fun p => p.2.toP)).map (·.1)).length ≤ sizeLine := by
            rw [List.length_map, hp.length_eq, List.length_zip, ezl, Nat.min_self, ← ezl]; exact hz
          exact ⟨.ref _, upd H (s.heap.objs.size + 1) (.lst _), I.laid (t' := s.toks) (fun _ _ => PyProof.Rows.sortedAll_old) (Nat.le_succ _) ⟨hl', out, ep, each_vals hout, he'⟩, rfl, p.newL (I.hok.fresh (Nat.le_succ _)) hr⟩
    · cases e
  · cases e
end
end Lt

/-! Lt: repr. -/
namespace Lt
open PySem PySem.Spec PyProof.Rows L2

theorem int_len (i : Int) : (Str.ofString (toString i)).length ≤ i.natAbs.log2 + 4 := by
  rw [PySem.ofString_length]
  exact Nat.le_trans (int_text_length_le (k := i.natAbs.log2 + 1) (by omega) (by omega)) (by omega)
theorem textFrom_le : ∀ (ts : List Str) (k : Nat) (acc : Str), (textFrom k acc ts).length ≤ acc.length + piled ts
  | [], k, acc => by simp [textFrom, piled]
  | t :: ts, k, acc => by
    have := textFrom_le ts (k + 1) (acc ++ (if k > 0 then ", " else "" : String) ++ t)
    simp only [textFrom]
    refine Nat.le_trans this ?_
    rw [strLen_append, strLen_append, piled_cons]
    have h2 : (Str.ofString (if k > 0 then ", " else "" : String)).length ≤ 2 := by
      split <;> decide
    omega
theorem listText_le (ts : List Str) : (listText ts).length ≤ piled ts + 2 := by
  unfold listText
  rw [strLen_append]
  have := textFrom_le ts 0 "["
  have e1 : (Str.ofString "[").length = 1 := rfl
  have e2 : (Str.ofString "]").length = 1 := rfl
  have this' : (textFrom 0 (Str.ofString "[") ts).length ≤ (Str.ofString "[").length + piled ts := this
  show (textFrom 0 (Str.ofString "[") ts).length + (Str.ofString "]").length ≤ _
  omega
theorem tupleText_le (ts : List Str) : (tupleText ts).length ≤ piled ts + 3 := by
  unfold tupleText
  rw [strLen_append, strLen_append]
  have e1 : (Str.ofString "(").length = 1 := rfl
  have e2 : (Str.ofString (if ts.length == 1 then ",)" else ")" : String)).length ≤ 2 := by split <;> decide
  have e3 : (Str.join ", " ts).length ≤ piled ts := by
    cases ts with
    | nil => exact Nat.le_of_eq rfl
    | cons t ts => have := join_length_add (t :: ts) (by simp); omega
  show (Str.ofString "(").length + (Str.join ", " ts).length + (Str.ofString (if ts.length == 1 then ",)" else ")" : String)).length ≤ _
  omega
mutual
theorem shown_le : ∀ (d : D) {n : Nat}, d.ok n = true → d.toP.shown.length ≤ d.wt
  | .non, _, _ => by simp only [D.toP, PyData.shown, D.wt]; decide
  | .bl b, _, _ => by simp only [D.toP, PyData.shown, D.wt]; cases b <;> decide
  | .int i, _, _ => by simp only [D.toP, PyData.shown, D.wt]; exact int_len i
  | .str x, n, h => by
    simp only [D.toP, PyData.shown, D.wt]
    have := PySem.StrLaws.reprText_len x fun c hc => by
      have h' := ok_str h
      have h2 := Array.all_eq_true_iff_forall_mem.mp (show x.cps.all (fun c => decide (c < 0x110000)) = true from h') c (by simpa using hc)
      have := of_decide_eq_true h2
      omega
    omega
  | .tup l, n, h => by
    cases n with
    | zero => simp [D.ok] at h
    | succ n =>
      simp only [D.toP, PyData.shown, D.wt]
      have := shown_leL l (n := n) (by simpa [D.ok] using h)
      exact Nat.le_trans (tupleText_le _) (by omega)
  | .lst l, n, h => by
    cases n with
    | zero => simp [D.ok] at h
    | succ n =>
      simp only [D.toP, PyData.shown, D.wt]
      have := shown_leL l (n := n) (by simpa [D.ok] using h)
      exact Nat.le_trans (listText_le _) (by omega)
  | .dct _ l, n, h => by cases n <;> simp [D.ok] at h
  | .src, n, h => by cases n <;> simp [D.ok] at h
theorem shown_leL : ∀ (l : List D) {n : Nat}, (∀ d ∈ l, d.ok n = true) → piled (PyData.shownAll (D.toPs l)) ≤ D.wtL l
  | [], _, _ => by simp [D.toPs, PyData.shownAll, piled]
  | d :: l, n, h => by
    simp only [D.toPs, PyData.shownAll, D.wtL]
    rw [piled_cons]
    have h1 := shown_le d (n := n) (h d (by simp))
    have h2 := shown_leL l (n := n) fun e he => h e (by simp [he])
    omega
end
mutual
theorem showable_of : ∀ (d : D) {n : Nat}, d.ok n = true → d.intsOk = true → d.toP.showable = true
  | .non, _, _, _ => by simp only [D.toP, PyData.showable]
  | .bl b, _, _, _ => by simp only [D.toP, PyData.showable]
  | .int i, _, _, h => by
    simp only [D.toP, PyData.showable, decide_eq_true_eq]
    simp only [D.intsOk, decide_eq_true_eq] at h
    omega
  | .str x, n, _, _ => by simp only [D.toP, PyData.showable]
  | .tup l, n, h, h2 => by
    cases n with
    | zero => simp [D.ok] at h
    | succ n =>
      simp only [D.toP, PyData.showable]
      exact showable_ofL l (n := n) (by simpa [D.ok] using h) (by simpa [D.intsOk] using h2)
  | .lst l, n, h, h2 => by
    cases n with
    | zero => simp [D.ok] at h
    | succ n =>
      simp only [D.toP, PyData.showable]
      exact showable_ofL l (n := n) (by simpa [D.ok] using h) (by simpa [D.intsOk] using h2)
  | .dct _ l, n, h, _ => by cases n <;> simp [D.ok] at h
  | .src, n, h, _ => by cases n <;> simp [D.ok] at h
theorem showable_ofL : ∀ (l : List D) {n : Nat}, (∀ d ∈ l, d.ok n = true) → D.intsOkL l = true → PyData.showableAll (D.toPs l) = true
  | [], _, _, _ => by simp [D.toPs, PyData.showableAll]
  | d :: l, n, h, h2 => by
    simp only [D.intsOkL, Bool.and_eq_true] at h2
    simp only [D.toPs, PyData.showableAll, Bool.and_eq_true]
    exact ⟨showable_of d (n := n) (h d (by simp)) h2.1, showable_ofL l (n := n) (fun e he => h e (by simp [he])) h2.2⟩
end
section
variable {y : Yx} {X : Cx}
theorem ok_repr (hg : X.A.guards = some []) (hu : X.A.units + 65 < cLine) : CallOk y X (.builtin "repr") bRepr 1 := by
  intro pins s σ H vs us Q I r h
  obtain ⟨P, ds, d, rl, e, p⟩ := h
  unfold bRepr at e
  split at e
  · rename_i d
    split at e
    · rename_i hc
      cases e
      simp only [Bool.and_eq_true, decide_eq_true_eq] at hc
      obtain ⟨⟨h1, h2⟩, h3⟩ := hc
      obtain ⟨v, rfl, rv⟩ := rpl1 rl
      have hsz : d.toP.shown.length ≤ sizeLine := Nat.le_trans (shown_le d h1) (big_le h3)
      have hsh := showable_of d h1 h2
      have hdep := (ok_lay h1).2
      have hnd : d.toP.hasDict = false := PyData.hasDict_of_canLay _ (ok_lay h1).1
      obtain ⟨u, rfl, q⟩ := r.one
      have ref : ∀ {a : Addr}, Rp y.sa P H (.ref a) d → RelV (.ref a) u → wpAny (model X.prog X.w) X.A (call (.builtin "repr") [u]) (EP X pins σ Q) X.xe s := fun {a} rr q => by
        obtain ⟨as, rd⟩ := Dp.reads I _ _ u (rr.dp h1) q
        cases q
        exact repr_of_reads' rd hsh (PyData.noDict_hsm hnd) hg (by omega) (fun _ _ e => e) (fun h' u tk hk => ⟨.str _, H, I.kept hk, ⟨_, rfl⟩, p.here rfl (.str _)⟩) hsz
      cases rv with
      | non => cases q; exact PySem.P.repr_of_none ⟨.str _, H, I.tok _, ⟨_, rfl⟩, p.here rfl (.str _)⟩
      | bl b => cases q; exact PySem.P.repr_of_bool ⟨.str _, H, I.tok _, ⟨_, rfl⟩, p.here rfl (.str _)⟩
      | int i => obtain ⟨t, rfl⟩ := q; exact PySem.P.repr_of_int (by simpa [D.toP, PyData.showable] using hsh) ⟨.str _, H, I.tok _, ⟨_, rfl⟩, p.here rfl (.str _)⟩
      | str x => obtain ⟨t, rfl⟩ := q; exact PySem.P.repr_of_str ⟨.str _, H, I.tok _, ⟨_, rfl⟩, p.here rfl (.str _)⟩ (by simpa [D.toP, PyData.shown] using hsz)
      | tup h r0 => exact ref (.tup h r0) q
      | lst pa h r0 => exact ref (.lst pa h r0) q
      | dK pa h ek r0 => exact ref (.dK pa h ek r0) q
      | dT pa h ek r0 => exact ref (.dT pa h ek r0) q
      | src => exact ref .src q
    · cases e
  · cases e
end
end Lt

/-! Lt: expressions. -/
namespace Lt
open PySem PySem.Spec PyProof.Rows L2

def notStar : Expr → Bool
  | .Starred _ _ => false
  | _ => true
def notSlice : Expr → Bool
  | .Slice _ _ _ _ => false
  | _ => true
def notSet : Expr → Bool
  | .Set _ _ _ => false
  | _ => true
theorem star_ns {e : Expr} {es : List Expr} {env : PySem.Env} (h : notStar e = true) : starEach (e :: es) env = (false, eval e env) :: starEach es env := by
  cases e <;> first | rfl | cases h
theorem star_any {env : PySem.Env} {pos : Pos} : ∀ {es : List Expr}, es.all notStar = true → (backTo pos (starEach es env)).any (·.1) = false
  | [], _ => rfl
  | e :: es, h => by
    simp only [List.all_cons, Bool.and_eq_true] at h
    rw [star_ns h.1]
    simpa [backTo] using star_any (env := env) (pos := pos) h.2
theorem plain_ix {b : Expr} (h : notSlice b = true) : PlainIx b := by
  intro o i
  cases b <;> first | rfl | cases h
theorem set_folded {e : Expr} {env : PySem.Env} (h : notSet e = true) : ∀ x, foldedSetIterable e env x = pure x := by
  intro x
  cases e <;> first | rfl | cases h
theorem no_mark {op : CmpOp} {b : Expr} (h : notSet b = true) : behindInMarks op b = false := by
  cases b <;> first | rfl | cases h

section
variable {y : Yx} {X : Cx} {EE : XK} {a b c : Expr} {ma mb mc : EM} {pos : Pos} {k : Nat}

/-- a value that is owned is a value -/
theorem dnE {e : Expr} {m : EM} (h : PE X e (rdE y EE k m)) : PE X e (rdE y EE 0 m) := PE.imp h fun σ H Q ⟨P, env, s, st, q⟩ =>
  ⟨P, env, s, st, Res.sat_mono q (fun d s' p v H' o x hs no nd r => p v H' [] x hs (fun _ h => by simp at h) .nil (Ow.rp k r (fun a q => ⟨q.1, by simp⟩) fun a ha => ⟨.inr (no a ha), by simp⟩)) fun _ _ q => q⟩
theorem post_x {P : Addr → Prop} {H0 H : Hp} {Q : VK} {d : D} {s : Src} {env : Env} {σ : L2.St} (bs : Bs y P H0 env s σ H) (p : Post y k P H0 Q d s) : PostX y.sa k (Pn P H0) H Q d := fun v H' o x no nd r =>
  p v H' o (bs.ext.trans x.ext) (bs.src.ex x) (fun a ha => bs.ext.back bs.src (no a ha)) nd (r.mono k (fun a u z e => ⟨⟨pn_pn bs.ext bs.src a z.1, z.2⟩, e⟩) (fun _ _ _ e => e) fun _ _ e => e)
theorem e_var {i : Nat} {x : Str} (hN : X.N[i]? = some x) (hv : Vis X.env.scope x) (hd : (x == ("__debug__" : Str)) = false) (hcd : (x == ("__classdict__" : Str)) = false) : PE X (.Name x pos) (rdE y EE 0 (eVar i)) :=
  PE.imp (pe_var hN hv hd hcd) fun σ H Q ⟨P, env, s, st, q⟩ => by
    have b := st.bs
    simp only [eVar] at q
    split at q
    · rename_i d e
      obtain ⟨v, h1, h2⟩ := b.re.val i d e
      exact ⟨v, h1, Post.give q Ext.refl st.2.2 h2⟩
    · exact q.elim
theorem e_con {e : Expr} {v : V} {d : D} {n : Nat} (h : PE X e (tC v)) (r : ∀ sa P H, Rp sa P H v d) (hi : d.imm n = true) : PE X e (rdE y EE k (eC d)) :=
  PE.imp h fun σ H Q ⟨P, env, s, st, q⟩ => Post.fix q Ext.refl st.2.2 (r _ _ _) hi
theorem e_int {i : Int} {j : Nat} : PE X (.Constant (.int i) j pos) (rdE y EE k (eC (.int i))) := e_con (n := 1) pe_int (fun _ _ _ => .int i) rfl
theorem e_bl {i : Bool} {j : Nat} : PE X (.Constant (.bool i) j pos) (rdE y EE k (eC (.bl i))) := e_con (n := 1) pe_bl (fun _ _ _ => .bl i) rfl
theorem e_non {j : Nat} : PE X (.Constant .none j pos) (rdE y EE k (eC .non)) := e_con (n := 1) pe_non (fun _ _ _ => .non) rfl
theorem e_str {i : Str} {j : Nat} : PE X (.Constant (.str i) j pos) (rdE y EE k (eC (.str i))) := e_con (n := 1) pe_str (fun _ _ _ => .str i) rfl
theorem e_bin {op : Operator} (ho : OpOk y X (binaryOp op) (dBin op) k) (ha : PE X a (rdE y EE 0 ma)) (hb : PE X b (rdE y EE 0 mb)) : PE X (.BinOp a op b pos) (rdE y EE k (eBin op ma mb)) :=
  PE.imp (pe_op ho ha hb) fun σ H Q ⟨P, env, s, st, q⟩ => by
    refine bindE st.bs q fun d1 s1 v1 H1 x1 b1 r1 q1 => ?_
    refine bindE b1 q1 fun d2 s2 v2 H2 x2 b2 r2 q2 => ?_
    obtain ⟨d, e, p⟩ := ofO_sat q2
    exact ⟨_, d1, d2, d, b1.rp x2 r1, r2, e, post_x b2 p⟩
theorem e_neg (ha : PE X a (rdE y EE 0 ma)) : PE X (.UnaryOp .USub a pos) (rdE y EE k (eNeg ma)) :=
  PE.imp (pe_un un_neg ha) fun σ H Q ⟨P, env, s, st, q⟩ => by
    refine bindE st.bs q fun d1 s1 v1 H1 x1 b1 r1 q1 => ?_
    obtain ⟨d, e, p⟩ := ofO_sat q1
    cases r1 <;> try (simp [dNeg] at e; done)
    simp [dNeg] at e; subst e
    exact ⟨_, rfl, (post_x b1 p).here rfl (.int _)⟩
theorem e_cmp {op : CmpOp} (hu : X.A.units + 65 < cLine) (ha : PE X a (rdE y EE 0 ma)) (hb : PE X b (rdE y EE 0 mb)) (hm : notSet b = true) : PE X (.Compare a [op] [b] pos) (rdE y EE k (eCmp op ma mb)) :=
  PE.imp (pe_cmpR (ok_cmp (y := y) hu op) ha hb (no_mark hm)) fun σ H Q ⟨P, env, s, st, q⟩ => by
    refine bindE st.bs q fun d1 s1 v1 H1 x1 b1 r1 q1 => ?_
    refine bindE b1 q1 fun d2 s2 v2 H2 x2 b2 r2 q2 => ?_
    obtain ⟨d, e, p⟩ := ofO_sat q2
    obtain ⟨c, e', rfl⟩ := Option.map_eq_some_iff.mp e
    exact ⟨_, d1, d2, c, b1.rp x2 r1, r2, e', (post_x b2 p).here rfl (.bl _)⟩
theorem t_cmp {op : CmpOp} (hu : X.A.units + 65 < cLine) (ha : PE X a (rdE y EE 0 ma)) (hb : PE X b (rdE y EE 0 mb)) (hm : notSet b = true) : PT X (.Compare a [op] [b] pos) (rdT y EE (tCmp op ma mb)) :=
  PT.imp (pt_cmpR (ok_cmp (y := y) hu op) ha hb (no_mark hm)) fun σ H Q ⟨P, env, s, st, q⟩ => by
    refine bindE st.bs q fun d1 s1 v1 H1 x1 b1 r1 q1 => ?_
    refine bindE b1 q1 fun d2 s2 v2 H2 x2 b2 r2 q2 => ?_
    obtain ⟨c, e, p⟩ := ofO_sat q2
    exact ⟨_, d1, d2, c, b1.rp x2 r1, r2, e, c, rfl, p H2 b2.ext b2.src⟩
theorem last_marks {op op' : CmpOp} (hm : notSet c = true) : lastMarks [op, op'] [b, c] = false := no_mark hm
theorem e_cmp2 {op op' : CmpOp} (hu : X.A.units + 65 < cLine) (ha : PE X a (rdE y EE 0 ma)) (hb : PE X b (rdE y EE 0 mb)) (hc : PE X c (rdE y EE 0 mc)) (hm : notSet c = true) : PE X (.Compare a [op, op'] [b, c] pos) (rdE y EE k (eCmp2 op op' ma mb mc)) :=
  PE.imp (pe_chain (ok_cmp (y := y) hu op) (ok_cmp (y := y) hu op') ha hb hc (last_marks hm)) fun σ H Q ⟨P, env, s, st, q⟩ => by
    refine bindE st.bs q fun d1 s1 v1 H1 x1 b1 r1 q1 => ?_
    refine bindE b1 q1 fun d2 s2 v2 H2 x2 b2 r2 q2 => ?_
    obtain ⟨i, e, p⟩ := ofO_sat (Res.sat_bind q2)
    refine ⟨_, d1, d2, i, b1.rp x2 r1, r2, e, i, rfl, ?_⟩
    cases i with
    | true =>
      simp only [if_true] at p ⊢
      refine bindE b2 p fun d3 s3 v3 H3 x3 b3 r3 q3 => ?_
      obtain ⟨d, e, p⟩ := ofO_sat q3
      obtain ⟨c, e', rfl⟩ := Option.map_eq_some_iff.mp e
      exact ⟨_, d2, d3, c, b2.rp x3 r2, r3, e', (post_x b3 p).here rfl (.bl _)⟩
    | false =>
      simp only [Bool.false_eq_true, if_false] at p ⊢
      exact (post_x b2 p).here rfl (.bl _)
theorem t_cmp2 {op op' : CmpOp} (hu : X.A.units + 65 < cLine) (ha : PE X a (rdE y EE 0 ma)) (hb : PE X b (rdE y EE 0 mb)) (hc : PE X c (rdE y EE 0 mc)) (hm : notSet c = true) : PT X (.Compare a [op, op'] [b, c] pos) (rdT y EE (tCmp2 op op' ma mb mc)) :=
  PT.imp (pt_chain (ok_cmp (y := y) hu op) (ok_cmp (y := y) hu op') ha hb hc (last_marks hm)) fun σ H Q ⟨P, env, s, st, q⟩ => by
    refine bindE st.bs q fun d1 s1 v1 H1 x1 b1 r1 q1 => ?_
    refine bindE b1 q1 fun d2 s2 v2 H2 x2 b2 r2 q2 => ?_
    obtain ⟨i, e, p⟩ := ofO_sat (Res.sat_bind q2)
    refine ⟨_, d1, d2, i, b1.rp x2 r1, r2, e, i, rfl, ?_⟩
    cases i with
    | true =>
      simp only [if_true] at p ⊢
      refine bindE b2 p fun d3 s3 v3 H3 x3 b3 r3 q3 => ?_
      obtain ⟨c, e, p⟩ := ofO_sat q3
      exact ⟨_, d2, d3, c, b2.rp x3 r2, r3, e, c, rfl, p H3 b3.ext b3.src⟩
    | false =>
      simp only [Bool.false_eq_true, if_false] at p ⊢
      exact ⟨false, rfl, p H2 b2.ext b2.src⟩
/-! tests -/
variable {ta tb : TM} {rest : List Expr}
theorem t_tru (ha : PE X a (rdE y EE 0 ma)) (he : ∀ whole, isTrue a X.env whole = (do let v ← whole; standAt a.pos; holding [v] (truthy v))) : PT X a (rdT y EE (tTru ma)) :=
  PT.imp (pt_truth ha he) fun σ H Q ⟨P, env, s, st, q⟩ => by
    refine bindE st.bs q fun d1 s1 v1 H1 x1 b1 r1 q1 => ?_
    obtain ⟨c, e, p⟩ := ofO_sat q1
    exact ⟨c, tru_of r1 e, p H1 b1.ext b1.src⟩
theorem t_not (ha : PT X a (rdT y EE ta)) : PT X (.UnaryOp .Not a pos) (rdT y EE (Lt.tNot ta)) :=
  PT.imp (pt_not ha) fun σ H Q ⟨P, env, s, st, q⟩ => bindT st.bs q fun d s' H' x b p => p H' b.ext b.src
theorem t_and1 (ha : PT X a (rdT y EE ta)) : PW X (.BoolOp .And [a] pos) (rdT y EE ta) := pw_and1 ha
theorem t_or1 (ha : PT X a (rdT y EE ta)) : PW X (.BoolOp .Or [a] pos) (rdT y EE ta) := pw_or1 ha
theorem t_and (ha : PT X a (rdT y EE ta)) (hb : PW X (.BoolOp .And (b :: rest) pos) (rdT y EE tb)) : PW X (.BoolOp .And (a :: b :: rest) pos) (rdT y EE (Lt.tAnd ta tb)) :=
  PW.imp (pw_and ha hb) fun σ H Q ⟨P, env, s, st, q⟩ => bindT st.bs q fun d s' H' x b p => by
    cases d with
    | true => exact lastT b p
    | false => exact p H' b.ext b.src
theorem t_or (ha : PT X a (rdT y EE ta)) (hb : PW X (.BoolOp .Or (b :: rest) pos) (rdT y EE tb)) : PW X (.BoolOp .Or (a :: b :: rest) pos) (rdT y EE (Lt.tOr ta tb)) :=
  PW.imp (pw_or ha hb) fun σ H Q ⟨P, env, s, st, q⟩ => bindT st.bs q fun d s' H' x b p => by
    cases d with
    | true => exact p H' b.ext b.src
    | false => exact lastT b p
/-! .. as values -/
theorem e_one {op : BoolOp} (ha : PE X a (rdE y EE k ma)) : PE X (.BoolOp op [a] pos) (rdE y EE k ma) := pe_one ha
theorem e_and (ha : PE X a (rdE y EE 0 ma)) (hb : PE X (.BoolOp .And (b :: rest) pos) (rdE y EE 0 mb)) : PE X (.BoolOp .And (a :: b :: rest) pos) (rdE y EE 0 (eAnd ma mb)) :=
  PE.imp (pe_andT ha hb) fun σ H Q ⟨P, env, s, st, q⟩ => bindE st.bs q fun d1 s1 v1 H1 x1 b1 r1 q1 => by
    obtain ⟨c, e, p⟩ := ofO_sat (Res.sat_bind q1)
    refine ⟨c, tru_of r1 e, ?_⟩
    cases c with
    | true => exact lastE b1 p
    | false => exact (post_x b1 p).here0 r1
theorem e_or (ha : PE X a (rdE y EE 0 ma)) (hb : PE X (.BoolOp .Or (b :: rest) pos) (rdE y EE 0 mb)) : PE X (.BoolOp .Or (a :: b :: rest) pos) (rdE y EE 0 (eOr ma mb)) :=
  PE.imp (pe_orT ha hb) fun σ H Q ⟨P, env, s, st, q⟩ => bindE st.bs q fun d1 s1 v1 H1 x1 b1 r1 q1 => by
    obtain ⟨c, e, p⟩ := ofO_sat (Res.sat_bind q1)
    refine ⟨c, tru_of r1 e, ?_⟩
    cases c with
    | true => exact (post_x b1 p).here0 r1
    | false => exact lastE b1 p
theorem e_not (ha : PE X a (rdE y EE 0 ma)) : PE X (.UnaryOp .Not a pos) (rdE y EE k (eNot ma)) :=
  PE.imp (pe_notT ha) fun σ H Q ⟨P, env, s, st, q⟩ => bindE st.bs q fun d1 s1 v1 H1 x1 b1 r1 q1 => by
    obtain ⟨c, e, p⟩ := ofO_sat (Res.sat_bind q1)
    exact ⟨c, tru_of r1 e, (post_x b1 p).here rfl (.bl _)⟩
theorem e_if (hc : PT X c (rdT y EE ta)) (ha : PE X a (rdE y EE k ma)) (hb : PE X b (rdE y EE k mb)) : PE X (.IfExp c a b pos) (rdE y EE k (eIf ta ma mb)) :=
  PE.imp (pe_ifExp hc ha hb) fun σ H Q ⟨P, env, s, st, q⟩ => bindT st.bs q fun d s' H' x b p => by
    cases d with
    | true => exact lastE b p
    | false => exact lastE b p
/-! lists of expressions -/
variable {es : List Expr} {ml : LM} {e : Expr}
theorem l_nil : PA X [] (rdL y EE eNil) := PA.imp pa_nil fun σ H Q ⟨P, env, s, st, q⟩ => q [] H Ext.refl st.2.2 .nil
theorem l_cons (ha : PE X a (rdE y EE 0 ma)) (hr : PA X es (rdL y EE ml)) (hs : notStar a = true) : PA X (a :: es) (rdL y EE (eCons ma ml)) :=
  PA.imp (pa_cons ha hr (star_ns hs)) fun σ H Q ⟨P, env, s, st, q⟩ => by
    refine bindE st.bs q fun d1 s1 v1 H1 x1 b1 r1 q1 => ?_
    refine bindL b1 q1 fun ds s2 vs H2 x2 b2 r2 q2 => ?_
    exact q2 _ H2 b2.ext b2.src (.cons (b1.rp x2 r1) r2)
/-- how many there are -/
def LmLen (ml : LM) (n : Nat) : Prop := ∀ R env s ds s', ml R env s = .ok ds s' → ds.length = n
theorem Res.bind_ok {α β : Type} {r : Res α} {f : α → Src → Res β} {b : β} {s' : Src} (h : r.bind f = .ok b s') : ∃ a s, r = .ok a s ∧ f a s = .ok b s' := by
  cases r with
  | ok a s => exact ⟨a, s, rfl, h⟩
  | ex e s => cases h
  | no => cases h
theorem len_nil : LmLen eNil 0 := fun R env s ds s' h => by
  simp only [eNil] at h
  cases h; rfl
theorem len_cons {n : Nat} (h : LmLen ml n) : LmLen (eCons ma ml) (n + 1) := fun R env s ds s' e => by
  obtain ⟨x, s1, _, e⟩ := Res.bind_ok e
  obtain ⟨xs, s2, e2, e⟩ := Res.bind_ok e
  cases e
  simp [h R env s1 xs _ e2]
theorem len_le {n : Nat} (h : LmLen ml n) {P : Addr → Prop} {env : Env} {s : Src} {Q : List D → Src → Prop} {E : Exc → Src → Prop} (q : (ml y.R env s).sat Q E) : (ml y.R env s).sat (fun ds s => ds.length = n ∧ Q ds s) E := by
  have := h y.R env s
  cases e : ml y.R env s with
  | ok ds s' => rw [e] at q; exact ⟨this ds s' e, q⟩
  | ex x s' => rw [e] at q; exact q
  | no => rw [e] at q; exact q
theorem e_tup {n j : Nat} (h : PA X es (rdL y EE ml)) (hn : LmLen ml n) (hb : n ≤ big) : PE X (.Tuple es j pos) (rdE y EE k (eTup ml)) :=
  PE.imp (pe_tup h) fun σ H Q ⟨P, env, s, st, q⟩ => by
    have q' : ((ml y.R env s).bind fun xs s => (Res.ok (D.tup xs) s : Res D)).sat (Post y k P H Q) (XW y EE H) := q
    have b := st.bs
    refine ⟨Pn P H, env, s, b.st0, Res.sat_mono (len_le hn (P := P) (Res.sat_bind q')) (fun ds s' p vs H' x hs r => ?_) fun e s' q => q⟩
    have b' := b.to x hs
    refine ⟨big_le (by rw [r.length, p.1]; exact hb), fun a ha => ?_⟩
    exact (post_x b' p.2).newT ha (r.imp fun a z => pn_pn Ext.refl st.2.2 a z)
theorem e_lst {n : Nat} (h : PA X es (rdL y EE ml)) (hn : LmLen ml n) (hb : n ≤ big) : PE X (.List es pos) (rdE y EE 1 (eLst ml)) :=
  PE.imp (pe_lst h) fun σ H Q ⟨P, env, s, st, q⟩ => by
    have q' : ((ml y.R env s).bind fun xs s => (Res.ok (D.lst xs) s : Res D)).sat (Post y 1 P H Q) (XW y EE H) := q
    have b := st.bs
    refine ⟨Pn P H, env, s, b.st0, Res.sat_mono (len_le hn (P := P) (Res.sat_bind q')) (fun ds s' p vs H' x hs r => ?_) fun e s' q => q⟩
    have b' := b.to x hs
    refine ⟨big_le (by rw [r.length, p.1]; exact hb), fun a ha => ?_⟩
    exact (post_x b' p.2).newL ha (r.imp fun a z => pn_pn Ext.refl st.2.2 a z)
theorem e_dct {t : Bool} : PE X (.Dict [] [] pos) (rdE y EE 1 (eDct t)) := by
  cases t with
  | false =>
    refine PE.imp pe_dnewK fun σ H Q ⟨P, env, s, st, q⟩ a ha => ?_
    have q' : Post y 1 P H Q (.dct false []) s := q
    exact q' (.ref a) _ [a] (Ex.new ha).ext (st.2.2.ex (Ex.new ha)) (fun b hb => by simp at hb; rw [hb]; exact ha) (by simp) (.inl ⟨a, [], [], rfl, rfl, upd_same, rfl, .nil, rfl⟩)
  | true =>
    refine PE.imp pe_dnewT fun σ H Q ⟨P, env, s, st, q⟩ a ha => ?_
    have q' : Post y 1 P H Q (.dct true []) s := q
    exact q' (.ref a) _ [a] (Ex.new ha).ext (st.2.2.ex (Ex.new ha)) (fun b hb => by simp at hb; rw [hb]; exact ha) (by simp) (.inr ⟨a, [], [], rfl, rfl, upd_same, rfl, .nil, rfl⟩)
theorem e_idx (hu : X.A.units + 65 < cLine) (ha : PE X a (rdE y EE 0 ma)) (hb : PE X b (rdE y EE 0 mb)) (hs : notSlice b = true) : PE X (.Subscript a b pos) (rdE y EE 0 (eIdx ma mb)) :=
  PE.imp (pe_ix (ok_ix (y := y) hu) ha hb (plain_ix hs)) fun σ H Q ⟨P, env, s, st, q⟩ => by
    refine bindE st.bs q fun d1 s1 v1 H1 x1 b1 r1 q1 => ?_
    refine bindE b1 q1 fun d2 s2 v2 H2 x2 b2 r2 q2 => ?_
    obtain ⟨d, e, p⟩ := ofO_sat q2
    exact ⟨_, d1, d2, d, b1.rp x2 r1, r2, e, post_x b2 p⟩
theorem o_none : PO X none (rdO y EE oNone) := PO.imp po_none fun σ H Q ⟨P, env, s, st, q⟩ => q H Ext.refl st.2.2
theorem o_some (ha : PE X a (rdE y EE 0 ma)) : PO X (some a) (rdO y EE (oSome ma)) := PO.imp (po_some ha) fun σ H Q ⟨P, env, s, st, q⟩ => by
  refine bindE st.bs q fun d1 s1 v1 H1 x1 b1 r1 q1 => ?_
  cases r1 <;> try (exact q1.elim)
  case int i => exact ⟨i, rfl, q1 H1 b1.ext b1.src⟩
theorem e_slice {lo hi : Option Expr} {ml mh : OM} {p2 : Pos} (ha : PE X a (rdE y EE 0 ma)) (hl : PO X lo (rdO y EE ml)) (hh : PO X hi (rdO y EE mh)) : PE X (.Subscript a (.Slice lo hi none p2) pos) (rdE y EE 1 (eSlice ma ml mh)) :=
  PE.imp (pe_slice (ok_sl (y := y)) ha hl hh) fun σ H Q ⟨P, env, s, st, q⟩ => by
    refine bindE st.bs q fun d1 s1 v1 H1 x1 b1 r1 q1 => ?_
    refine bindO b1 q1 fun l s2 H2 x2 b2 q2 => ?_
    refine bindO b2 q2 fun h s3 H3 x3 b3 q3 => ?_
    obtain ⟨d, e, p⟩ := ofO_sat q3
    exact ⟨_, d1, d, b2.rp x3 (b1.rp x2 r1), e, post_x b3 p⟩
/-- a built-in: a function or a class -/
theorem e_bi {x : Str} {f : Value} {g : Bi} {p : Pos} (hk : (∃ id, f = .builtin id) ∨ ∃ T, f = .type T) (hc : CallOk y X f g k) (hg : Gl X x) (hm : X.mg x = none) (hv : bootBuiltins x = some f) (ha : PA X (e :: es) (rdL y EE ml))
    (hs : (e :: es).all notStar = true) (hn : x ≠ "__name__") (hdb : (x == ("__debug__" : Str)) = false) : PE X (.Call (.Name x p) (e :: es) [] pos) (rdE y EE k (eBi g ml)) := by
  have hs1 : notStar e = true := by simp only [List.all_cons, Bool.and_eq_true] at hs; exact hs.1
  have hs2 : es.all notStar = true := by simp only [List.all_cons, Bool.and_eq_true] at hs; exact hs.2
  have fin : ∀ σ H Q, rdE y EE k (eBi g ml) σ H Q → tCB (fun vs H Q => ∃ P ds d, RpL y.sa P H vs ds ∧ g ds = some d ∧ PostX y.sa k P H Q d) (rdL y EE ml) σ H Q := fun σ H Q ⟨P, env, s, st, q⟩ => by
    refine bindL st.bs q fun ds s1 vs H1 x1 b1 r1 q1 => ?_
    obtain ⟨d, e, p⟩ := ofO_sat q1
    exact ⟨_, ds, d, r1, e, post_x b1 p⟩
  rcases hk with ⟨id, rfl⟩ | ⟨T, rfl⟩
  · exact PE.imp (pe_callB hc hg hm hv ha hn hdb (star_ns hs1) (star_any hs2)) fin
  · exact PE.imp (pe_callTy hc hg hm hv ha hn hdb (star_ns hs1) (star_any hs2)) fin
end
end Lt

/-! Lt: what a for walks. -/
namespace Lt
open PySem PySem.Spec PyProof.Rows L2
open AutoSeq1 (wpAny_loadPart')

/-- enumerate of a tuple: its object -/
theorem en_new (l : Addr) (xs : Array Value) (m : Nat) (dd : Option Addr) (ss : Array (Option Value)) :
    Meets (Builtin.«enumerate.__new__» ⟨[.type "enumerate", .ref l], []⟩) (fun _ R s => s.heap.get? l = some { cls := .type "tuple", dict := dd, data := .seq xs m, slots := ss } ∧
      R (.ok (.ret (.ref (s.heap.push { cls := .type "tuple_iterator", data := .fields #[.ref l, .int 0 0] }).objs.size)))
        { s with heap := (s.heap.push { cls := .type "tuple_iterator", data := .fields #[.ref l, .int 0 0] }).push { cls := .type "enumerate", data := .fields #[.none, .bool false, .ref s.heap.objs.size, rawInt 0, .none, .none] } }) :=
  .of_wp fun prog w A R s h => by
    obtain ⟨h0, g0, d0, t0, o0⟩ := s
    obtain ⟨ht, h⟩ := h
    have hsub := sub_enumerate
    have hT : Heap.IsTuple (Shared.heap ⟨h0, g0, d0, t0, o0⟩) l xs := ⟨_, ht, rfl, m, rfl⟩
    wp_walk using wpAny_loadPart' ht
    refine wpAny_stack_any fun st => wpAny_pure ?_
    split
    · rename_i c _ _ _ _ _
      cases (c == Value.type "enumerate") <;> (wp_walk using wpAny_loadPart' ht, wpAny_pyIter_tuple hT; exact ⟨_, rfl, h⟩)
    · wp_walk using wpAny_loadPart' ht, wpAny_pyIter_tuple hT
      exact ⟨_, rfl, h⟩
section
variable {prog : Program} {w : World} {A : Around} {E : Value → Shared → Prop} {s : Shared}
theorem en_call {l : Addr} {xs : Array Value} {Q : Value → Shared → Prop} (hL : s.heap.IsTuple l xs)
    (h : ∀ h', IsEnum h' (s.heap.objs.size + 1) s.heap.objs.size 0 .none → h'.IsTupleIter s.heap.objs.size l 0 → h'.objs.size = s.heap.objs.size + 2 →
      (∀ b o, s.heap.get? b = some o → h'.get? b = some o) → Q (.ref (s.heap.objs.size + 1)) { s with heap := h' }) :
    wpAny (model prog w) A (call (.type "enumerate") [.ref l]) Q E s := by
  obtain ⟨⟨cl, dd, dt, ss⟩, hl, hc, m, hd⟩ := hL
  have hc' : cl = .type "tuple" := hc
  have hd' : dt = .seq xs m := hd
  subst hc' hd'
  refine callType_new F.called_enumerate (by decide) (F.typeCall_enumerate_1 _) (F.newCall_enumerate_1 _) (fun obj => F.args_object_init_2 obj _) F.entry_enumerate_new (en_new l xs m dd ss) ⟨hl, ?_⟩
  have hz : (s.heap.push { cls := .type "tuple_iterator", data := .fields #[.ref l, .int 0 0] }).objs.size = s.heap.objs.size + 1 := Heap.size_push ..
  show _ ∧ _
  rw [hz]
  have he : IsEnum ((s.heap.push { cls := .type "tuple_iterator", data := .fields #[.ref l, .int 0 0] }).push
      { cls := .type "enumerate", data := .fields #[.none, .bool false, .ref s.heap.objs.size, rawInt 0, .none, .none] }) (s.heap.objs.size + 1) s.heap.objs.size 0 .none := by
    have q := Heap.get?_push_size (s.heap.push { cls := .type "tuple_iterator", data := .fields #[.ref l, .int 0 0] })
      (o := { cls := .type "enumerate", data := .fields #[.none, .bool false, .ref s.heap.objs.size, rawInt 0, .none, .none] }) rfl
    rw [hz] at q
    exact q
  exact ⟨⟨_, he, rfl⟩, h _ he ⟨_, Heap.get?_push_of_some _ (Heap.get?_push_size _ rfl), rfl, rfl⟩ (by rw [Heap.size_push, hz]) fun b o x => Heap.get?_push_of_some _ (Heap.get?_push_of_some _ x)⟩
end
/-- the tuple at a as it stands, each item with its number in a new pair -/
def IteT (K : PySem.W.Frag) (a : Addr) : It :=
  ⟨fun i H => ∃ (xs : List V) (x : V), SqT K H a xs ∧ xs[i]? = some x, fun i H v H' => ∃ T x, v = .ref T ∧ H T = none ∧ H' = upd H T (.tup [.int (i : Nat), x]) ∧ ∀ xs, SqT K H a xs → xs[i]? = some x, fun i H => ∃ xs : List V, SqT K H a xs ∧ xs.length = i⟩
theorem turn_enT {P : Program} {w : World} {K : PySem.W.Frag} {elts : List Expr} {kk : Nat} {tpos : Pos} (a e it : Addr) :
    Turn P w K (.Tuple elts kk tpos) (IteT K a) [e, it] e (fun i h => (∃ old, IsEnum h e it ((i : Nat) : Int) old) ∧ h.IsTupleIter it a i ∧ e ≠ it ∧ a ≠ it ∧ a ≠ e) where
  mem := by simp
  obj := fun i h st b hb => by
    obtain ⟨⟨old, he⟩, ⟨o, ho, hc, hd⟩, _⟩ := st
    rcases (by simpa using hb : b = e ∨ b = it) with rfl | rfl
    · exact ⟨_, he, fun v q => nomatch q⟩
    · exact ⟨o, ho, fun v q => by rw [hd] at q; cases q⟩
  keep := fun i h h' st k => let ⟨⟨old, he⟩, hi, h3⟩ := st; ⟨⟨old, k e (by simp) _ he⟩, hi.at fun o q => k it (by simp) o q, h3⟩
  item := by
    intro X hP hw hK hc i pins s σ H E I hf st hg
    subst hP hw hK
    obtain ⟨⟨old, he⟩, hit, hne, hai, hae⟩ := st
    obtain ⟨xs, x, hq, hx⟩ := hg
    obtain ⟨its, rv, p, hz⟩ := I.tuple hq
    obtain ⟨u, hu, ru⟩ := rv.get hx
    have hel : e < s.heap.objs.size := Heap.lt_size he
    have hil : it < s.heap.objs.size := let ⟨_, q, _⟩ := hit; Heap.lt_size q
    have hT : s.heap.IsTuple a its.toArray := p
    have hin : i < its.toArray.size := by
      obtain ⟨h1, _⟩ := List.getElem?_eq_some_iff.mp hu
      simpa using h1
    refine wpAny_pyNext_enum_itemD (Draws.tuple (A := X.A.in1) (I.ok.hd hc) it a hai its.toArray) he ⟨hit, hT⟩ hin hne (by simp [hne, Ne.symm hae]) fun u' h' tk hu' ho hst hTu hsz hk => ?_
    have eu : u' = u := by
      have h2 : its.toArray[i]? = some u := by simpa using hu
      rw [h2] at hu'
      exact (Option.some.inj hu').symm
    subst eu
    refine ⟨_, rfl, wpAny_letOwnedTupleGo_enum (s := { s with heap := h', toks := tk + 1 }) ho fun h'' he' sb => ?_⟩
    have hT2 : h''.get? s.heap.objs.size = some { cls := .type "tuple", data := .seq #[.int i tk, u'] } := (sb.2 _ (Nat.ne_of_gt hel)).trans hTu
    have new : ObjOk X.prog X.w (upd H s.heap.objs.size (.tup [.int (i : Nat), x])) h'' s.heap.objs.size (.tup [.int (i : Nat), x]) :=
      ⟨(by decide : 2 ≤ sizeLine), [.int i tk, u'], .cons ⟨_, rfl⟩ (.cons ru .nil), ⟨_, hT2, rfl, _, rfl⟩⟩
    have I1 : Inv X pins σ (upd H s.heap.objs.size (.tup [.int (i : Nat), x])) { s with heap := h'', toks := tk + 1 } :=
      I.turnedNew (ch := [e, it]) (fun b ob hb q => (sb.2 b (fun z => hb (by simp [z]))).trans (hk b ob (fun z => hb (by simp [z])) (fun z => hb (by simp [z])) q)) hf (Nat.le_refl _) new
    have e1 : ((i + 1 : Nat) : Int) = (i : Int) + 1 := by omega
    refine ⟨.ref s.heap.objs.size, _, I1, rfl, ⟨_, x, rfl, I.hok.fresh (Nat.le_refl _), rfl, fun ys hy => by rw [I.tuple_inj hy hq]; exact hx⟩, ⟨⟨u', e1 ▸ he'⟩, hst.1.at fun o q => (sb.2 it (Ne.symm hne)).trans q, hne, hai, hae⟩, fun b hb => ?_⟩
    have hb' : b < s.heap.objs.size := by
      rcases (by simpa using hb : b = e ∨ b = it) with rfl | rfl
      · exact hel
      · exact hil
    rw [upd_ne (Nat.ne_of_lt hb')]
    exact (hf b hb).1
  done := by
    intro X hP hw hK hc i pins s σ H E I hf st hg
    subst hP hw hK
    obtain ⟨⟨old, he⟩, hit, hne, hai, hae⟩ := st
    obtain ⟨xs, hq, hx⟩ := hg
    obtain ⟨its, rv, p, hz⟩ := I.tuple hq
    obtain ⟨f0, f1, f2, f3, f4, f5⟩ := hf it (by simp)
    have hl := rv.length
    have hn : its.toArray.size = i := by simp; omega
    have hT : s.heap.IsTuple a its.toArray := p
    exact wpAny_pyNext_enum_endD (Draws.tuple (A := X.A.in1) (I.ok.hd hc) it a hai its.toArray) he (by rw [hn]; exact ⟨hit, hT⟩) fun h' eb => ⟨rfl, I.turned (t' := s.toks) (fun b o hb q => eb b o hb q) f0 f1 f3 f4 f5⟩
  self := fun A i s Q E st h => let ⟨⟨_, he⟩, _⟩ := st; wpAny_pyIter_enum he h

/-! ### by values -/
/-- J goes through the items, while the things srcs are as they are -/
structure YR (y : Yx) (J : It) (P : Addr → Prop) (srcs : List (V × D)) (items : List D) : Prop where
  go : ∀ (i : Nat) (H : Hp), (∀ p ∈ srcs, Rp y.sa P H p.1 p.2) → i < items.length → J.go i H ∧ ∀ x H', J.yld i H x H' → Ex H H' ∧ ∃ d, items[i]? = some d ∧ Rp y.sa P H' x d
  stop : ∀ (H : Hp), (∀ p ∈ srcs, Rp y.sa P H p.1 p.2) → J.stop items.length H
def rdI (y : Yx) (EE : XK) (m : LM) : TI := fun σ H R => ∃ P env s, St0 y P env s σ H ∧ (m y.R env s).sat (fun items s' => ∀ J H' srcs, Ext y H H' → SrcAt y H' s' → (∀ p ∈ srcs, Rp y.sa (Pn P H) H' p.1 p.2) → (∀ P', YR y J P' srcs items) → items.length ≤ sizeLine → R J H') (XW y EE H)
/-- how long lists and tuples are -/
abbrev HLen (H : Hp) : Prop := ∀ a xs, (H a = some (.lst xs) ∨ H a = some (.tup xs)) → xs.length ≤ sizeLine
theorem PI.len {X : Cx} {tg e : Expr} {wi : TI} (h : PI X tg e wi) : PI X tg e (fun σ H R => wi σ H fun J H1 => HLen H1 → R J H1) := ⟨fun pins s σ H R I q =>
  wpAny_mono (h.run pins s σ H _ I q) (fun v s1 w => thn w fun itv s2 ⟨it, fp, tn, J, H', e1, I2, e2, e3, e4, e5⟩ =>
    ⟨it, fp, tn, J, H', e1, I2, e2, e3, e4, e5 fun a xs ha => by
      rcases ha with ha | ha
      · exact (I2.hok a _ ha).1
      · exact (I2.hok a _ ha).1⟩) fun _ _ z => z⟩
section
variable {y : Yx} {X : Cx} {EE : XK} {a b : Expr} {ma mb : EM} {ml : LM} {tg : Expr} {p pos tpos : Pos} {P : Addr → Prop}
theorem yr_list {v : V} {l : List D} {q : Addr} : YR y (Itl X.K q) P [(.ref q, .lst l)] l where
  go := fun i H h hi => by
    have r := h (.ref q, .lst l) (by simp)
    cases r with
    | lst pa ha rl =>
      obtain ⟨w, e, rw'⟩ := rl.get (List.getElem?_eq_getElem hi)
      refine ⟨⟨_, w, SqL.of ha, e⟩, fun x H' hy => ?_⟩
      obtain ⟨rfl, hx⟩ := hy
      have := hx _ (SqL.of ha)
      rw [e] at this
      cases this
      exact ⟨Ex.refl, _, List.getElem?_eq_getElem hi, rw'⟩
  stop := fun H h => by
    have r := h (.ref q, .lst l) (by simp)
    cases r with
    | lst pa ha rl => exact ⟨_, SqL.of ha, Nat.le_of_eq rl.length⟩
theorem yr_tup {l : List D} {q : Addr} : YR y (Itt X.K q) P [(.ref q, .tup l)] l where
  go := fun i H h hi => by
    have r := h (.ref q, .tup l) (by simp)
    cases r with
    | tup ha rl =>
      obtain ⟨w, e, rw'⟩ := rl.get (List.getElem?_eq_getElem hi)
      refine ⟨⟨_, w, SqT.of ha, e⟩, fun x H' hy => ?_⟩
      obtain ⟨rfl, hx⟩ := hy
      have := hx _ (SqT.of ha)
      rw [e] at this
      cases this
      exact ⟨Ex.refl, _, List.getElem?_eq_getElem hi, rw'⟩
  stop := fun H h => by
    have r := h (.ref q, .tup l) (by simp)
    cases r with
    | tup ha rl => exact ⟨_, SqT.of ha, Nat.le_of_eq rl.length⟩
theorem rangeL_get {lo hi : Int} {i : Nat} (h : i < (rangeL lo hi).length) : (rangeL lo hi)[i]? = some (.int (lo + (i : Int))) := by
  simp only [rangeL, List.length_map, List.length_range] at h
  simp [rangeL, h]
theorem yr_range {lo hi : Int} : YR y (Itr lo (hi - lo).toNat) P [] (rangeL lo hi) where
  go := fun i H h hh => by
    have hi' : i < (rangeL lo hi).length := hh
    have h1 : i < (hi - lo).toNat := by simpa [rangeL] using hh
    refine ⟨h1, fun x H' hy => ?_⟩
    obtain ⟨rfl, rfl⟩ := hy
    exact ⟨Ex.refl, _, rangeL_get hi', .int _⟩
  stop := fun H h => by show (hi - lo).toNat ≤ _; simp [rangeL]
theorem enumL_get {l : List D} {i : Nat} {d : D} (h : l[i]? = some d) : (enumL l)[i]? = some (.tup [.int (i : Int), d]) := by
  simp [enumL, h]
theorem enumL_length {l : List D} : (enumL l).length = l.length := by simp [enumL]
theorem new_pair {H : Hp} {T : Addr} {v w : V} {d e : D} (hT : H T = none) (r1 : Rp y.sa P H v d) (r2 : Rp y.sa P H w e) : Ex H (upd H T (.tup [v, w])) ∧ Rp y.sa P (upd H T (.tup [v, w])) (.ref T) (.tup [d, e]) :=
  ⟨Ex.new hT, .tup upd_same (.cons (r1.ex (Ex.new hT)) (.cons (r2.ex (Ex.new hT)) .nil))⟩
theorem yr_enumL {l : List D} {q : Addr} : YR y (Ite X.K q) P [(.ref q, .lst l)] (enumL l) where
  go := fun i H h hi => by
    rw [enumL_length] at hi
    have r := h (.ref q, .lst l) (by simp)
    cases r with
    | lst pa ha rl =>
      obtain ⟨w, e, rw'⟩ := rl.get (List.getElem?_eq_getElem hi)
      refine ⟨⟨_, w, SqL.of ha, e⟩, fun x H' hy => ?_⟩
      obtain ⟨T, x', rfl, hT, rfl, hx⟩ := hy
      have := hx _ (SqL.of ha)
      rw [e] at this
      cases this
      obtain ⟨n1, n2⟩ := new_pair (y := y) (P := P) hT (.int (i : Nat)) rw'
      exact ⟨n1, _, enumL_get (List.getElem?_eq_getElem hi), n2⟩
  stop := fun H h => by
    have r := h (.ref q, .lst l) (by simp)
    cases r with
    | lst pa ha rl => exact ⟨_, SqL.of ha, by rw [enumL_length]; exact Nat.le_of_eq rl.length⟩
theorem yr_enumT {l : List D} {q : Addr} : YR y (IteT X.K q) P [(.ref q, .tup l)] (enumL l) where
  go := fun i H h hi => by
    rw [enumL_length] at hi
    have r := h (.ref q, .tup l) (by simp)
    cases r with
    | tup ha rl =>
      obtain ⟨w, e, rw'⟩ := rl.get (List.getElem?_eq_getElem hi)
      refine ⟨⟨_, w, SqT.of ha, e⟩, fun x H' hy => ?_⟩
      obtain ⟨T, x', rfl, hT, rfl, hx⟩ := hy
      have := hx _ (SqT.of ha)
      rw [e] at this
      cases this
      obtain ⟨n1, n2⟩ := new_pair (y := y) (P := P) hT (.int (i : Nat)) rw'
      exact ⟨n1, _, enumL_get (List.getElem?_eq_getElem hi), n2⟩
  stop := fun H h => by
    have r := h (.ref q, .tup l) (by simp)
    cases r with
    | tup ha rl => exact ⟨_, SqT.of ha, by rw [enumL_length]; exact rl.length⟩
theorem zipL_get {l m : List D} {i : Nat} {d e : D} (h : l[i]? = some d) (h' : m[i]? = some e) : (zipL l m)[i]? = some (.tup [d, e]) := by
  have : (l.zip m)[i]? = some (d, e) := List.getElem?_zip_eq_some.mpr ⟨h, h'⟩
  simp [zipL, this]
theorem zipL_length {l m : List D} : (zipL l m).length = min l.length m.length := by simp [zipL]
theorem yr_zipL {l m : List D} {q r : Addr} : YR y (Itz X.K q r) P [(.ref q, .lst l), (.ref r, .lst m)] (zipL l m) where
  go := fun i H h hi => by
    rw [zipL_length] at hi
    have r1 := h (.ref q, .lst l) (by simp)
    have r2 := h (.ref r, .lst m) (by simp)
    cases r1 with
    | lst pa ha rl => cases r2 with
      | lst pb hb rm =>
        have h1 : i < l.length := by omega
        have h2 : i < m.length := by omega
        obtain ⟨w, e, rw'⟩ := rl.get (List.getElem?_eq_getElem h1)
        obtain ⟨w2, e2, rw2⟩ := rm.get (List.getElem?_eq_getElem h2)
        refine ⟨⟨_, _, w, w2, SqL.of ha, SqL.of hb, e, e2⟩, fun x H' hy => ?_⟩
        obtain ⟨T, x', y', rfl, hT, rfl, hx, hy⟩ := hy
        have t1 := hx _ (SqL.of ha)
        have t2 := hy _ (SqL.of hb)
        rw [e] at t1; rw [e2] at t2
        cases t1; cases t2
        obtain ⟨n1, n2⟩ := new_pair (y := y) (P := P) hT rw' rw2
        exact ⟨n1, _, zipL_get (List.getElem?_eq_getElem h1) (List.getElem?_eq_getElem h2), n2⟩
  stop := fun H h => by
    have r1 := h (.ref q, .lst l) (by simp)
    have r2 := h (.ref r, .lst m) (by simp)
    cases r1 with
    | lst pa ha rl => cases r2 with
      | lst pb hb rm =>
        refine ⟨_, _, SqL.of ha, SqL.of hb, ?_⟩
        rw [zipL_length, rl.length, rm.length]
        omega
theorem yr_zipT {l m : List D} {q r : Addr} : YR y (RZ.ItzT X.K q r) P [(.ref q, .tup l), (.ref r, .tup m)] (zipL l m) where
  go := fun i H h hi => by
    rw [zipL_length] at hi
    have r1 := h (.ref q, .tup l) (by simp)
    have r2 := h (.ref r, .tup m) (by simp)
    cases r1 with
    | tup ha rl => cases r2 with
      | tup hb rm =>
        have h1 : i < l.length := by omega
        have h2 : i < m.length := by omega
        obtain ⟨w, e, rw'⟩ := rl.get (List.getElem?_eq_getElem h1)
        obtain ⟨w2, e2, rw2⟩ := rm.get (List.getElem?_eq_getElem h2)
        refine ⟨⟨_, _, w, w2, SqT.of ha, SqT.of hb, e, e2⟩, fun x H' hy => ?_⟩
        obtain ⟨T, x', y', rfl, hT, rfl, hx, hy⟩ := hy
        have t1 := hx _ (SqT.of ha)
        have t2 := hy _ (SqT.of hb)
        rw [e] at t1; rw [e2] at t2
        cases t1; cases t2
        obtain ⟨n1, n2⟩ := new_pair (y := y) (P := P) hT rw' rw2
        exact ⟨n1, _, zipL_get (List.getElem?_eq_getElem h1) (List.getElem?_eq_getElem h2), n2⟩
  stop := fun H h => by
    have r1 := h (.ref q, .tup l) (by simp)
    have r2 := h (.ref r, .tup m) (by simp)
    cases r1 with
    | tup ha rl => cases r2 with
      | tup hb rm =>
        refine ⟨_, _, SqT.of ha, SqT.of hb, ?_⟩
        rw [zipL_length, rl.length, rm.length]
        omega
/-! the walks -/
theorem items_cases {sa : Addr} {P : Addr → Prop} {H : Hp} {v : V} {d : D} {l : List D} (r : Rp sa P H v d) (h : d.items = some l) : ∃ q vs, v = .ref q ∧ RpL sa P H vs l ∧ ((d = .lst l ∧ H q = some (.lst vs)) ∨ (d = .tup l ∧ H q = some (.tup vs))) := by
  cases r <;> try (simp [D.items] at h; done)
  case tup ha rl => simp [D.items] at h; subst h; exact ⟨_, _, rfl, rl, .inr ⟨rfl, ha⟩⟩
  case lst pa ha rl => simp [D.items] at h; subst h; exact ⟨_, _, rfl, rl, .inl ⟨rfl, ha⟩⟩
/-- a list or a tuple -/
def iSeqA (K : PySem.W.Frag) (tl : TE) : TI := fun σ H R => tl σ H fun x H1 => ∃ a, x = .ref a ∧ (((∃ xs, SqL K H1 a xs) ∧ R (Itl K a) H1) ∨ ((∃ xs, SqT K H1 a xs) ∧ R (Itt K a) H1))
theorem pi_seqA {l : Expr} {tl : TE} (hl : PE X l tl) : PI X tg l (iSeqA X.K tl) := by
  refine ⟨fun pins s σ H R I h => ?_⟩
  refine thn (hl.run pins s σ H _ I h) fun v s1 ⟨x, H1, I1, r1, q1⟩ => ?_
  obtain ⟨a, rfl, q1⟩ := q1
  cases r1
  rcases q1 with ⟨⟨xs, hq⟩, q⟩ | ⟨⟨xs, hq⟩, q⟩
  · obtain ⟨its, rv, pl, hz⟩ := I1.list hq
    refine wpAny_pyIter_list pl.isList ⟨s1.heap.objs.size, [s1.heap.objs.size], _, _, H1, rfl, I1.kept (t' := s1.toks) fun b o e => Heap.get?_push_of_some _ e, turn_list a _, ⟨_, Heap.get?_push_size _ rfl, rfl, rfl⟩, fun b hb => ?_, q⟩
    obtain rfl : b = s1.heap.objs.size := by simpa using hb
    exact I1.fpOk (Nat.le_refl _) (I1.hok.fresh (Nat.le_refl _))
  · obtain ⟨its, rv, pl, hz⟩ := I1.tuple hq
    refine wpAny_pyIter_tuple (show s1.heap.IsTuple a its.toArray from pl) ⟨s1.heap.objs.size, [s1.heap.objs.size], _, _, H1, rfl, I1.kept (t' := s1.toks) fun b o e => Heap.get?_push_of_some _ e, turn_tuple a _, ⟨_, Heap.get?_push_size _ rfl, rfl, rfl⟩, fun b hb => ?_, q⟩
    obtain rfl : b = s1.heap.objs.size := by simpa using hb
    exact I1.fpOk (Nat.le_refl _) (I1.hok.fresh (Nat.le_refl _))
theorem i_seq (ha : PE X a (rdE y EE 0 ma)) : PI X tg a (rdI y EE (iSeq ma)) :=
  PI.imp (Lt.PI.len (pi_seqA ha)) fun σ H R ⟨P, env, s, st, q⟩ => bindE st.bs q fun d1 s1 v1 H1 x1 b1 r1 q1 => by
    obtain ⟨l, e, p⟩ := ofO_sat q1
    obtain ⟨c, vs, rfl, rl, ⟨rfl, hc⟩ | ⟨rfl, hc⟩⟩ := items_cases r1 e
    · exact ⟨c, rfl, .inl ⟨⟨_, SqL.of hc⟩, fun hl => p _ H1 _ b1.ext b1.src (fun q hq => by simp at hq; subst hq; exact r1) (fun _ => yr_list (v := .non)) (rl.length ▸ hl _ _ (.inl hc))⟩⟩
    · exact ⟨c, rfl, .inr ⟨⟨_, SqT.of hc⟩, fun hl => p _ H1 _ b1.ext b1.src (fun q hq => by simp at hq; subst hq; exact r1) (fun _ => yr_tup) (rl.length ▸ hl _ _ (.inr hc))⟩⟩
theorem okR_bd {n : Int} (h : okR n = true) : -(2 ^ 62) ≤ n ∧ n < 2 ^ 62 := by
  have h' : n.natAbs ≤ 1000000 := of_decide_eq_true h
  have e : (2 : Int) ^ 62 = 4611686018427387904 := by decide
  rw [e]; omega
theorem len_range {m n : Int} (h : okR m = true) (h' : okR n = true) : (rangeL m n).length ≤ sizeLine := by
  have h1 : m.natAbs ≤ 1000000 := of_decide_eq_true h
  have h2 : n.natAbs ≤ 1000000 := of_decide_eq_true h'
  have h3 : sizeLine = 16777216 := sizeLine_eq
  simp only [rangeL, List.length_map, List.length_range]
  omega
theorem i_range1 (ha : PE X a (rdE y EE 0 ma)) (hg : Gl X "range") (hm : X.mg "range" = none) (hs : notStar a = true) : PI X tg (.Call (.Name "range" p) [a] [] pos) (rdI y EE (iRange1 ma)) :=
  PI.imp (pi_range1 hg hm (pa_cons ha pa_nil (star_ns hs)) (star_ns hs)) fun σ H R ⟨P, env, s, st, q⟩ => bindE st.bs q fun d1 s1 v1 H1 x1 b1 r1 q1 => by
    cases r1 <;> try (exact q1.elim)
    case int n =>
      simp only at q1
      split at q1
      · rename_i hn
        have := okR_bd hn
        have hy := fun P' => yr_range (y := y) (P := P') (lo := 0) (hi := n)
        rw [show (n - 0).toNat = n.toNat by rw [Int.sub_zero]] at hy
        exact ⟨n, rfl, this.1, this.2, q1 _ H1 [] b1.ext b1.src (fun q hq => by simp at hq) hy (len_range (by decide) hn)⟩
      · exact q1.elim
theorem i_range2 (ha : PE X a (rdE y EE 0 ma)) (hb : PE X b (rdE y EE 0 mb)) (hg : Gl X "range") (hm : X.mg "range" = none) (hs : notStar a = true) (hs2 : notStar b = true) : PI X tg (.Call (.Name "range" p) [a, b] [] pos) (rdI y EE (iRange2 ma mb)) :=
  PI.imp (pi_range2 hg hm (pa_cons ha (pa_cons hb pa_nil (star_ns hs2)) (star_ns hs)) (by rw [star_ns hs, star_ns hs2]; rfl) (star_ns hs2)) fun σ H R ⟨P, env, s, st, q⟩ => by
    refine bindE st.bs q fun d1 s1 v1 H1 x1 b1 r1 q1 => ?_
    refine bindE b1 q1 fun d2 s2 v2 H2 x2 b2 r2 q2 => ?_
    cases r1 <;> try (exact q2.elim)
    case int m =>
      cases r2 <;> try (exact q2.elim)
      case int n =>
        simp only at q2
        split at q2
        · rename_i hn
          obtain ⟨h1, h2⟩ := Bool.and_eq_true_iff.mp hn
          exact ⟨m, n, rfl, ⟨(okR_bd h1).1, (okR_bd h1).2, (okR_bd h2).1, (okR_bd h2).2⟩, q2 _ H2 [] b2.ext b2.src (fun q hq => by simp at hq) (fun _ => yr_range) (len_range h1 h2)⟩
        · exact q2.elim
end
end Lt

/-! Lt: defs and their calls; the promises know that nothing is being shown (guards). -/
namespace Lt
open PySem PySem.Spec PyProof.Rows L2

/-- a def's promise, where no repr is running -/
structure FnG (P : Program) (w : World) (K : PySem.W.Frag) (mg : Str → Option Value) (base : Heap) (CX : CXT) (k : Nat) (f : Addr) (fd : FuncData) (ps : List Str) (sp : Sp) : Prop where
  len : ∀ vs H Q E, sp vs H Q E → vs.length = ps.length
  run : ∀ (A : Around) (outer : List PySem.Env) (s : Shared) (H : Hp) (args : Args) (us : List Value) (vs : List V) (Q : VK) (E : XK), Room k A → A.guards = some [] → Env0 P w K mg base A outer s H → BindsTo s fd args (ps.zip us) → Vals vs us → sp vs H Q E →
    codeAny (model P w) A (.call (.ref f) args) (CR CX outer P w H s Q E) s
theorem FnG.mono {P : Program} {w : World} {K : PySem.W.Frag} {mg : Str → Option Value} {base : Heap} {CX : CXT} {j k : Nat} {f : Addr} {fd : FuncData} {ps : List Str} {sp : Sp} (F : FnG P w K mg base CX j f fd ps sp) (h : j ≤ k) : FnG P w K mg base CX k f fd ps sp :=
  ⟨F.len, fun A outer s H args us vs Q E r => F.run A outer s H args us vs Q E (r.mono h)⟩
theorem FnG.imp {P : Program} {w : World} {K : PySem.W.Frag} {mg : Str → Option Value} {base : Heap} {CX : CXT} {k : Nat} {f : Addr} {fd : FuncData} {ps : List Str} {sp sp' : Sp} (F : FnG P w K mg base CX k f fd ps sp) (h : ∀ vs H Q E, sp' vs H Q E → sp vs H Q E) : FnG P w K mg base CX k f fd ps sp' :=
  ⟨fun vs H Q E q => F.len vs H Q E (h _ _ _ _ q), fun A outer s H args us vs Q E r g e b v q => F.run A outer s H args us vs Q E r g e b v (h _ _ _ _ q)⟩
section
variable {P : Program} {w : World} {K : PySem.W.Frag} {mg : Str → Option Value} {base : Heap} {CX : CXT}
/-- a def of the text by its body -/
theorem fng_of {x qual : Str} {params : Arguments} {body : List Stmt} {scope : Scope} {dV kV doc pm cdv ct oc : Value} {an od : Option Addr} {osl : Array (Option Value)} {k : Nat} {f : Addr} {N ps : List Str} {sp : Sp}
    (lk : K.lookup f = some ⟨oc, od, .func (PySem.W.fnOf x qual params body scope dV kV doc pm an cdv ct), osl⟩) (hcd : PySem.W.codeIn K cdv qual = true) (S : FnScope N ps scope) (len : ∀ vs H Q E, sp vs H Q E → vs.length = ps.length)
    (hb : ∀ (A : Around) (outer : List PySem.Env) (s : Shared) (H : Hp) (vs : List V) (Q : VK) (E : XK), Room k (A.deeper (envOfC qual scope s.heap.objs.size f cdv)) → A.guards = some [] → sp vs H Q E →
      ∃ t, PSs (cxOf CX P w K mg base N qual scope f cdv A outer s H E) body t ∧ t { nx := fun _ H' => Q .non H', rt := Q } (start N vs) H) :
    FnG P w K mg base CX (k + 1) f (PySem.W.fnOf x qual params body scope dV kV doc pm an cdv ct) ps sp := by
  refine ⟨len, fun A outer s H args us vs Q E hr hg e0 hbt r q => ?_⟩
  have KX : K.In s.heap := e0.mod.kin.keeps fun b o e => (e0.bs b o e).1
  have nl : s.heap.NoLimit := e0.mod.nolimit.keeps fun b o e => (e0.bs b o e).1
  have hk : ∀ z ∈ ps.zip us, scope.names.lookup z.1 = some .local ∨ (scope.names.lookup z.1 = some .cell ∧ ((cellsFrom (s.heap.objs.size + 1) scope.names []).lookup z.1).isSome = true) := by
    intro z hz
    have hm := (List.of_mem_zip (show (z.1, z.2) ∈ ps.zip us from hz)).1
    rcases S.par z.1 hm with h | h
    · exact .inl h
    · exact .inr ⟨h, PySem.W.cellsFrom_some _ _ _ (.inl h)⟩
  refine codeAny_call_function hr.depth (KX _ _ lk) rfl S.co S.gen rfl (PySem.W.codeRec_of KX hcd) (hbt _ _ _ _ ?_)
  refine wpAny_newFunctionEnv_cells S.kind hk fun env he s1 x1 => ?_
  subst he
  refine ⟨nl.keeps x1.toInCall.keep, codeAny_func ?_⟩
  obtain ⟨t, ht, hq⟩ := hb A outer s H vs Q E (hr.deeper _) hg q
  have I : Inv (cxOf CX P w K mg base N qual scope f cdv A outer s H E) [] (start N vs) H s1 := inv_start S hr.hd e0 (len _ _ _ _ q) r x1
  refine wpAny_mono (ht.run [] s1 (start N vs) H _ I hq) (fun fl s' hs => ?_) fun _ _ z => z
  cases fl with
  | ret u => obtain ⟨v, σ', H', J, rv, z⟩ := hs; exact ⟨v, H', J.os, J.bare, J.base, J.hok, rv, z⟩
  | next => obtain ⟨σ', H', J, z⟩ := hs; exact ⟨V.non, H', J.os, J.bare, J.base, J.hok, rfl, z⟩
  | brk => obtain ⟨_, _, _, z⟩ := hs; exact z.elim
  | cont => obtain ⟨_, _, _, z⟩ := hs; exact z.elim
end
section
variable {X : Cx} {CX : CXT} {k : Nat} {f : Addr} {fd : FuncData} {ps : List Str} {sp : Sp} {E : XK} {x : Str} {p pos : Pos} {e : Expr} {es : List Expr} {t : TA}
theorem pe_callG (F : FnG X.prog X.w X.K X.mg X.base CX k f fd ps sp) (hr : Room k X.A) (hgd : X.A.guards = some []) (hg : Gl X x) (hm : X.mg x = some (.ref f)) (hk : PySem.W.keepIn X.K (.ref f) = true) (hb : Binds X.K fd ps []) (hx : Passes CX X E)
    (ha : PA X (e :: es) t) (hdb : (x == ("__debug__" : Str)) = false) (hs : (e :: es).all notStar = true) : PE X (.Call (.Name x p) (e :: es) [] pos) (fun σ H Q => t σ H fun vs H1 => sp vs H1 Q E) := by
  have hs1 : notStar e = true := by simp only [List.all_cons, Bool.and_eq_true] at hs; exact hs.1
  have hs2 : es.all notStar = true := by simp only [List.all_cons, Bool.and_eq_true] at hs; exact hs.2
  refine ⟨fun pins s σ H Q I h => ?_⟩
  refine wpAny_Call_Name_kw (ld_glob I hg hm ?_ hdb)
  refine PySem.W.callWith_K (h₀ := X.base) I.ok.mod.kin hk (thn (ha.run pos pins s σ H _ I h) fun us s1 ⟨vs, H1, I1, r, q⟩ => ⟨I1.kIn, ?_⟩) (star_ns hs1) (star_any hs2)
  have hl : us.length = ps.length := by rw [← r.length]; exact F.len _ _ _ _ q
  have hbt := hb s1 us I1.kIn (by simpa using hl)
  rw [List.append_nil] at hbt
  refine wpAny_call (codeAny_mono (F.run X.A X.stack s1 H1 ⟨us, []⟩ us vs Q E hr hgd I1.env0 hbt r q) fun res s' hq => ?_)
  cases res with
  | error z => exact hx pins σ H1 s1 z s' I1 hq
  | ok fl => cases fl with
    | ret u => exact I1.after hq
    | next => exact hq.elim
    | brk => exact hq.elim
    | cont => exact hq.elim
end
/-- what a def of the table promises -/
def spD (y : Yx) (f np kr : Nat) : Sp := fun vs H Q E => vs.length = np ∧ ∃ P ds s, Pok y P ∧ RpL y.sa P H vs ds ∧ SrcAt y H s ∧ (y.R.cl f ds s).sat (Post y kr P H Q) (XW y E H)
section
variable {y : Yx} {X : Cx} {EE : XK} {k n np kr fi : Nat} {f : Addr} {fd : FuncData} {ps : List Str} {x : Str} {p pos : Pos} {e : Expr} {es : List Expr} {ml : LM}
theorem e_call (F : FnG X.prog X.w X.K X.mg X.base (L2.CX X.prog X.w) k f fd ps (spD y fi np kr)) (hr : Room k X.A) (hgd : X.A.guards = some []) (hg : Gl X x) (hm : X.mg x = some (.ref f)) (hk : PySem.W.keepIn X.K (.ref f) = true) (hb : Binds X.K fd ps [])
    (hx : Passes (L2.CX X.prog X.w) X EE) (ha : PA X (e :: es) (rdL y EE ml)) (hl : LmLen ml np) (hdb : (x == ("__debug__" : Str)) = false) (hs : (e :: es).all notStar = true) : PE X (.Call (.Name x p) (e :: es) [] pos) (rdE y EE kr (eCall fi ml)) :=
  PE.imp (pe_callG F hr hgd hg hm hk hb hx ha hdb hs) fun σ H Q ⟨P, env, s, st, q⟩ => by
    have b := st.bs
    have q' : ((ml y.R env s).bind fun xs s => y.R.cl fi xs s).sat (Post y kr P H Q) (XW y EE H) := q
    refine ⟨Pn P H, env, s, b.st0, Res.sat_mono (len_le hl (P := P) (Res.sat_bind q')) (fun ds s' z vs H' x hs r => ?_) fun _ _ z => z⟩
    have b' := b.to x hs
    have r' : RpL y.sa (Pn P H) H' vs ds := r.imp fun a z => pn_pn Ext.refl st.2.2 a z
    refine ⟨by rw [r.length]; exact z.1, Pn P H, ds, s', b.pok, r', hs, Res.sat_mono z.2 (fun d s2 post v H2 o x2 hs2 no nd ow => ?_) fun e s2 w => w.mono x⟩
    exact post v H2 o (x.trans x2) hs2 (fun a ha => x.back hs (no a ha)) nd (ow.mono kr (fun a u z e => ⟨⟨pn_pn x hs a z.1, z.2⟩, e⟩) (fun _ _ _ e => e) fun _ _ e => e)
end
end Lt

/-! Lt: targets, comprehensions. -/
namespace Lt
open PySem PySem.Spec PyProof.Rows L2

section
variable {y : Yx} {X : Cx} {EE : XK} {a b : Expr} {ma mb : EM} {ml : LM} {tg : Expr} {p pos tpos : Pos} {P : Addr → Prop}
/-! enumerate, zip -/
def iEnumA (K : PySem.W.Frag) (ta : TA) : TI := fun σ H R => ta σ H fun vs H1 => ∃ a, vs = [.ref a] ∧ (((∃ xs, SqL K H1 a xs) ∧ R (Ite K a) H1) ∨ ((∃ xs, SqT K H1 a xs) ∧ R (IteT K a) H1))
theorem pi_enumA {ta : TA} {elts : List Expr} {kk : Nat} (hg : Gl X "enumerate") (hm : X.mg "enumerate" = none) (ha : PA X [a] ta) (hs : starEach [a] X.env = [(false, eval a X.env)]) :
    PI X (.Tuple elts kk tpos) (.Call (.Name "enumerate" p) [a] [] pos) (iEnumA X.K ta) := by
  refine ⟨fun pins s σ H R I h => ?_⟩
  refine Call_ (ld_blt I hg hm boot_enumerate (PyProof.Rows.callWith_type1 (thn (ha.run pos pins s σ H _ I h) fun us s1 ⟨vs, H1, I1, r1, q1⟩ => ?_) hs rfl))
  obtain ⟨c, rfl, q1⟩ := q1
  have e2 := Vals.ref1 r1
  subst e2
  have fr : ∀ {z : Addr}, z = s1.heap.objs.size + 1 ∨ z = s1.heap.objs.size → FpOk X pins H1 z := fun {z} h => by
    have hle : s1.heap.objs.size ≤ z := by rcases h with rfl | rfl <;> omega
    exact I1.fpOk hle (I1.hok.fresh hle)
  rcases q1 with ⟨⟨xs, hq⟩, q⟩ | ⟨⟨xs, hq⟩, q⟩
  · obtain ⟨its, rv, pl, hz⟩ := I1.list hq
    refine call_enumerate_list pl.isList fun h' he hit hsz hk => wpAny_pyIter_enum he ?_
    exact ⟨s1.heap.objs.size + 1, [s1.heap.objs.size + 1, s1.heap.objs.size], _, _, H1, rfl, I1.kept (t' := s1.toks) hk, turn_enum c (s1.heap.objs.size + 1) s1.heap.objs.size, ⟨⟨.none, he⟩, hit, Nat.succ_ne_self _⟩, fun b hb => fr (by simpa using hb), q⟩
  · obtain ⟨its, rv, pl, hz⟩ := I1.tuple hq
    have hlt := pl.lt
    refine en_call (show s1.heap.IsTuple c its.toArray from pl) fun h' he hit hsz hk => wpAny_pyIter_enum he ?_
    exact ⟨s1.heap.objs.size + 1, [s1.heap.objs.size + 1, s1.heap.objs.size], _, _, H1, rfl, I1.kept (t' := s1.toks) hk, turn_enT c (s1.heap.objs.size + 1) s1.heap.objs.size, ⟨⟨.none, he⟩, hit, Nat.succ_ne_self _, Nat.ne_of_lt hlt, Nat.ne_of_lt (Nat.lt_succ_of_lt hlt)⟩, fun b hb => fr (by simpa using hb), q⟩
theorem i_enum {elts : List Expr} {kk : Nat} (ha : PE X a (rdE y EE 0 ma)) (hg : Gl X "enumerate") (hm : X.mg "enumerate" = none) (hs : notStar a = true) : PI X (.Tuple elts kk tpos) (.Call (.Name "enumerate" p) [a] [] pos) (rdI y EE (iEnum ma)) :=
  PI.imp (Lt.PI.len (pi_enumA hg hm (pa_cons ha pa_nil (star_ns hs)) (star_ns hs))) fun σ H R ⟨P, env, s, st, q⟩ => bindE st.bs q fun d1 s1 v1 H1 x1 b1 r1 q1 => by
    obtain ⟨l, e, p⟩ := ofO_sat q1
    obtain ⟨l', e', rfl⟩ := Option.map_eq_some_iff.mp e
    obtain ⟨c, vs, rfl, rl, ⟨rfl, hc⟩ | ⟨rfl, hc⟩⟩ := items_cases r1 e'
    · exact ⟨c, rfl, .inl ⟨⟨_, SqL.of hc⟩, fun hl => p _ H1 _ b1.ext b1.src (fun q hq => by simp at hq; subst hq; exact r1) (fun _ => yr_enumL) (by rw [enumL_length, ← rl.length]; exact hl _ _ (.inl hc))⟩⟩
    · exact ⟨c, rfl, .inr ⟨⟨_, SqT.of hc⟩, fun hl => p _ H1 _ b1.ext b1.src (fun q hq => by simp at hq; subst hq; exact r1) (fun _ => yr_enumT) (by rw [enumL_length, ← rl.length]; exact hl _ _ (.inr hc))⟩⟩
theorem i_zip {elts : List Expr} {kk : Nat} (ha : PE X a (rdE y EE 0 ma)) (hb : PE X b (rdE y EE 0 mb)) (hg : Gl X "zip") (hm : X.mg "zip" = none) (hs : notStar a = true) (hs2 : notStar b = true) :
    PI X (.Tuple elts kk tpos) (.Call (.Name "zip" p) [a, b] [] pos) (rdI y EE (iZip ma mb)) :=
  PI.imp (Lt.PI.len (RZ.pi_zipA hg hm (pa_cons ha (pa_cons hb pa_nil (star_ns hs2)) (star_ns hs)) (star_ns hs) (star_any (by simp [hs2])))) fun σ H R ⟨P, env, s, st, q⟩ => by
    refine bindE st.bs q fun d1 s1 v1 H1 x1 b1 r1 q1 => ?_
    refine bindE b1 q1 fun d2 s2 v2 H2 x2 b2 r2 q2 => ?_
    have r1' := b1.rp x2 r1
    have src : ∀ {d1 d2 : D}, Rp y.sa (Pn P H) H2 v1 d1 → Rp y.sa (Pn P H) H2 v2 d2 → ∀ p ∈ [(v1, d1), (v2, d2)], Rp y.sa (Pn P H) H2 p.1 p.2 := fun h1 h2 p hp => by
      rcases (by simpa using hp : p = (v1, _) ∨ p = (v2, _)) with rfl | rfl
      · exact h1
      · exact h2
    cases d1 <;> try (exact q2.elim)
    case tup l =>
      cases d2 <;> try (exact q2.elim)
      case tup m =>
        have sr := src r1' r2
        cases r1' with
        | tup ha rl => cases r2 with
          | tup hb rm => exact ⟨_, _, _, _, rfl, .inr ⟨SqT.of ha, SqT.of hb, fun hl => q2 _ H2 _ b2.ext b2.src sr (fun _ => yr_zipT) (by rw [zipL_length, ← rl.length]; exact Nat.le_trans (Nat.min_le_left _ _) (hl _ _ (.inr ha)))⟩⟩
    case lst l =>
      cases d2 <;> try (exact q2.elim)
      case lst m =>
        have sr := src r1' r2
        cases r1' with
        | lst pa ha rl => cases r2 with
          | lst pb hb rm => exact ⟨_, _, _, _, rfl, .inl ⟨SqL.of ha, SqL.of hb, fun hl => q2 _ H2 _ b2.ext b2.src sr (fun _ => yr_zipL) (by rw [zipL_length, ← rl.length]; exact Nat.le_trans (Nat.min_le_left _ _) (hl _ _ (.inl ha)))⟩⟩
end

/-! ### targets -/
def setV : List Nat → List V → L2.St → L2.St
  | i :: is, v :: vs, σ => setV is vs (σ.set i (some v))
  | _, _, σ => σ
/-- the target is p -/
def PatRun (p : Pat) (g : TG) : Prop :=
  ∀ (sa : Addr) (P : Addr → Prop) (v : V) (d : D) (env env' : Env) (σ : L2.St) (H : Hp) (Q : L2.St → Hp → Prop), Rp sa P H v d → p.set d env = some env' →
    (∀ ws ds, RpL sa P H ws ds → setAll p.slots ds env = some env' → (∀ z ∈ ds, z = d ∨ ∃ l, d = .tup l ∧ z ∈ l) → Q (setV p.slots ws σ) H) → g v σ H Q
def PatOk (X : Cx) (tg : Expr) (p : Pat) (g : TG) : Prop := PG X tg g ∧ PatRun p g
theorem run_nm {i : Nat} : PatRun (.nm i) (gName i) := fun sa P v d env env' σ H Q r e h => h [v] [d] (.cons r .nil) (by simp only [Pat.set] at e; simpa [Pat.slots, setAll] using e) fun z hz => .inl (by simpa using hz)
theorem pat_nm {X : Cx} {i : Nat} {x : Str} {pos : Pos} (hN : X.N.Nodup) (hi : X.N[i]? = some x) (hx : Loc X.env.scope x) (hf : X.fn x = true ∨ X.env.scope.names.lookup x = some .local) : PatOk X (.Name x pos) (.nm i) (gName i) :=
  ⟨pg_name hN hi hx hf, run_nm⟩
/-- names, one after another -/
def gNames : List Nat → TGs
  | [] => gNil
  | i :: is => gCons (gName i) (gNames is)
def NamesOk (X : Cx) : List Expr → List Nat → Prop
  | [], [] => True
  | .Name x _ :: es, i :: is => (X.N[i]? = some x ∧ Loc X.env.scope x ∧ (X.fn x = true ∨ X.env.scope.names.lookup x = some .local)) ∧ NamesOk X es is
  | _, _ => False
theorem names_pgs {X : Cx} (hN : X.N.Nodup) : ∀ {es : List Expr} {is : List Nat}, NamesOk X es is → PGs X es (gNames is) ∧ (assignEach es X.env).length = is.length ∧ (assignEach es X.env).findIdx? (·.1) = none ∧ es.length = is.length
  | [], [], _ => ⟨pgs_nil, rfl, rfl, rfl⟩
  | .Name x p :: es, i :: is, h => by
    obtain ⟨⟨h1, h2, h3⟩, h4⟩ := h
    obtain ⟨i1, i2, i3, i4⟩ := names_pgs hN h4
    refine ⟨pgs_cons (pg_name hN h1 h2 h3) i1 rfl, ?_, ?_, by simp [i4]⟩
    · show (_ :: assignEach es X.env).length = _
      simp [i2]
    · show List.findIdx? (·.1) ((false, _) :: assignEach es X.env) = none
      simp [List.findIdx?_cons, i3]
  | [], _ :: _, h => h.elim
  | .Name x p :: es, [], h => h.elim
theorem names_run {sa : Addr} {P : Addr → Prop} {H : Hp} : ∀ {is : List Nat} {ws : List V} {ds : List D} {env env' : Env} {σ : L2.St} {Q : L2.St → Hp → Prop}, RpL sa P H ws ds → setAll is ds env = some env' → Q (setV is ws σ) H → gNames is ws σ H Q
  | [], _, _, env, env', σ, Q, .nil, e, h => ⟨rfl, h⟩
  | [], _, _, env, env', σ, Q, .cons _ _, e, h => by simp [setAll] at e
  | _ :: _, _, _, env, env', σ, Q, .nil, e, h => by simp [setAll] at e
  | i :: is, _, _, env, env', σ, Q, .cons r rs, e, h => ⟨_, _, rfl, names_run rs (by simpa [setAll] using e) h⟩
theorem run_tp {K : PySem.W.Frag} {is : List Nat} : PatRun (.tp is) (gTup K is.length (gNames is)) := fun sa P v d env env' σ H Q r e h => by
  cases d <;> try (simp [Pat.set] at e; done)
  case tup ds =>
    cases r with
    | tup ha rl =>
      have e' : setAll is ds env = some env' := by simpa [Pat.set] using e
      have hl : ∀ {is : List Nat} {ds : List D} {env env' : Env}, setAll is ds env = some env' → is.length = ds.length := by
        intro is
        induction is with
        | nil => intro ds env env' e; cases ds <;> simp [setAll] at e ⊢
        | cons i is ih => intro ds env env' e; cases ds with
          | nil => simp [setAll] at e
          | cons d ds => simp [ih (by simpa [setAll] using e)]
      exact ⟨_, _, rfl, SqT.of ha, by rw [rl.length, hl e'], names_run rl e' (h _ _ rl e' fun z hz => .inr ⟨ds, rfl, hz⟩)⟩
theorem pat_tp {X : Cx} {es : List Expr} {is : List Nat} {kk : Nat} {pos : Pos} (hc : X.calm = true) (hN : X.N.Nodup) (h : NamesOk X es is) : PatOk X (.Tuple es kk pos) (.tp is) (gTup X.K is.length (gNames is)) := by
  obtain ⟨i1, i2, i3, i4⟩ := names_pgs hN h
  exact ⟨pg_tup hc i1 i2 i3, run_tp⟩
theorem setV_length : ∀ (is : List Nat) (ws : List V) (σ : L2.St), (setV is ws σ).length = σ.length
  | [], _, _ => rfl
  | _ :: _, [], _ => rfl
  | i :: is, v :: vs, σ => by simp only [setV]; rw [setV_length]; exact List.length_set
theorem RE.set {sa : Addr} {P : Addr → Prop} {env : Env} {σ : L2.St} {H : Hp} {v : V} {d : D} (h : RE sa P env σ H) (i : Nat) (r : Rp sa P H v d) : RE sa P (env.set i (some d)) (σ.set i (some v)) H := by
  refine ⟨by rw [List.length_set, List.length_set]; exact h.len, fun j e hj => ?_⟩
  by_cases hij : i = j
  · subst hij
    have hlt : i < (env.set i (some d)).length := by
      rcases Nat.lt_or_ge i (env.set i (some d)).length with q | q
      · exact q
      · rw [List.getElem?_eq_none q] at hj; cases hj
    rw [List.length_set] at hlt
    rw [List.getElem?_set_self hlt] at hj
    cases hj
    exact ⟨v, List.getElem?_set_self (by have := h.len; exact this ▸ hlt), r⟩
  · rw [List.getElem?_set_ne hij] at hj
    obtain ⟨w, h1, h2⟩ := h.val j e hj
    exact ⟨w, by
      have := List.getElem?_set_ne (l := σ) (a := some v) hij
      exact this.trans h1, h2⟩
theorem RE.setAll {sa : Addr} {P : Addr → Prop} {H : Hp} : ∀ {is : List Nat} {ws : List V} {ds : List D} {env env' : Env} {σ : L2.St}, RE sa P env σ H → RpL sa P H ws ds → Lt.setAll is ds env = some env' → RE sa P env' (setV is ws σ) H
  | [], _, _, env, env', σ, h, .nil, e => by simp [Lt.setAll] at e; subst e; exact h
  | [], _, _, env, env', σ, h, .cons _ _, e => by simp [Lt.setAll] at e
  | _ :: _, _, _, env, env', σ, h, .nil, e => by simp [Lt.setAll] at e
  | i :: is, _, _, env, env', σ, h, .cons (v := v) (vs := vs) (d := d) (ds := ds) r rs, e => by
    have e' : Lt.setAll is ds (env.set i (some d)) = some env' := e
    have q := RE.setAll (h.set i r) rs e'
    exact q
theorem RE.wipe {sa : Addr} {P : Addr → Prop} {env : Env} {σ : L2.St} {H : Hp} (h : RE sa P env σ H) : ∀ vs : List Nat, RE sa P (wipeE env vs) (L2.wipe σ vs) H
  | [] => h
  | i :: is => by
    have ih := RE.wipe h is
    refine ⟨by simp only [wipeE, L2.wipe]; rw [List.length_set, List.length_set]; exact ih.len, fun j e hj => ?_⟩
    simp only [wipeE] at hj
    by_cases hij : i = j
    · subst hij
      rcases Nat.lt_or_ge i (wipeE env is).length with q | q
      · rw [List.getElem?_set_self q] at hj; cases hj
      · rw [List.getElem?_eq_none (by rw [List.length_set]; exact q)] at hj; cases hj
    · rw [List.getElem?_set_ne hij] at hj
      obtain ⟨w, h1, h2⟩ := ih.val j e hj
      exact ⟨w, (List.getElem?_set_ne (l := L2.wipe σ is) (a := none) hij).trans h1, h2⟩
/-- a set of the wiped slots, wiped again -/
theorem wipe_set {σ : L2.St} {i : Nat} {v : Option V} : ∀ {vs : List Nat}, i ∈ vs → L2.wipe (σ.set i v) vs = L2.wipe σ vs
  | [], h => by simp at h
  | j :: vs, h => by
    simp only [L2.wipe]
    by_cases hm : i ∈ vs
    · rw [wipe_set hm]
    · have hij : i = j := by
        rcases List.mem_cons.mp h with q | q
        · exact q
        · exact absurd q hm
      subst hij
      have : ∀ {vs : List Nat} (σ : L2.St), i ∉ vs → L2.wipe (σ.set i v) vs = (L2.wipe σ vs).set i v := by
        intro vs
        induction vs with
        | nil => intro σ _; rfl
        | cons k vs ih => intro σ hk
                          simp only [List.mem_cons, not_or] at hk
                          simp only [L2.wipe]
                          rw [ih σ hk.2]
                          exact List.set_comm _ _ hk.1
      rw [this σ hm, List.set_set]
theorem wipe_wipe (σ : L2.St) : ∀ vs : List Nat, L2.wipe (L2.wipe σ vs) vs = L2.wipe σ vs := by
  have key : ∀ (vs ws : List Nat) (σ : L2.St), (∀ i ∈ ws, i ∈ vs) → L2.wipe (L2.wipe σ ws) vs = L2.wipe σ vs := by
    intro vs ws
    induction ws with
    | nil => intro σ _; rfl
    | cons i ws ih => intro σ h
                      simp only [L2.wipe]
                      rw [wipe_set (h i (by simp)), ih σ fun j hj => h j (by simp [hj])]
  exact fun vs => key vs vs σ fun i h => h
theorem wipe_setV {own : List Nat} : ∀ {is : List Nat} {ws : List V} {σ : L2.St}, (∀ i ∈ is, i ∈ own) → L2.wipe (setV is ws σ) own = L2.wipe σ own
  | [], _, _, _ => rfl
  | _ :: _, [], _, _ => rfl
  | i :: is, v :: vs, σ, h => by
    simp only [setV]
    rw [wipe_setV fun j hj => h j (by simp [hj]), wipe_set (h i (by simp))]

/-! ### comprehensions -/
abbrev F0 : XK := fun _ _ _ => False
section
variable {α β : Type} {y : Yx} {EE : XK} {H : Hp}
theorem nox_sat {r : Res α} {f : α → Src → Res β} {Q : β → Src → Prop} {E : Exc → Src → Prop} {H' : Hp} (h : (r.nox.bind f).sat Q E) : r.sat (fun a s => (f a s).sat Q E) (XW y F0 H') := by
  cases r with
  | ok a s => exact h
  | ex e s => exact h.elim
  | no => exact h
end
theorem OwL.snoc {R : V → D → List Addr → Prop} : ∀ {vs : List V} {ds : List D} {o : List Addr} {v : V} {d : D} {oe : List Addr}, OwL R vs ds o → R v d oe → OwL R (vs ++ [v]) (ds ++ [d]) (o ++ oe)
  | _, _, _, v, d, oe, .nil, r => by
    have h := OwL.cons (R := R) r .nil
    rw [List.append_nil] at h
    exact h
  | _, _, _, v, d, oe, .cons q qs, r => by
    rw [List.append_assoc]
    exact .cons q (OwL.snoc qs r)
theorem OwL.length {R : V → D → List Addr → Prop} : ∀ {vs : List V} {ds : List D} {o : List Addr}, OwL R vs ds o → vs.length = ds.length
  | _, _, _, .nil => rfl
  | _, _, _, .cons _ qs => by simp [OwL.length qs]
theorem Ow.trim {sa : Addr} {P : Addr → Prop} {H : Hp} : ∀ (k : Nat) {v : V} {d : D} {o : List Addr}, Ow sa P H k v d o → ∃ o', o'.Sublist o ∧ (∀ a ∈ o', H a ≠ none) ∧ Ow sa P H k v d o' := by
  have key : ∀ (R : V → D → List Addr → Prop), (∀ v d o, R v d o → ∃ o', o'.Sublist o ∧ (∀ a ∈ o', H a ≠ none) ∧ R v d o') → ∀ {vs : List V} {ds : List D} {o : List Addr}, OwL R vs ds o → ∃ o', o'.Sublist o ∧ (∀ a ∈ o', H a ≠ none) ∧ OwL R vs ds o' := by
    intro R f vs ds o h
    induction h with
    | nil => exact ⟨[], .refl _, by simp, .nil⟩
    | cons r rs ih =>
      obtain ⟨o1, a1, a2, a3⟩ := f _ _ _ r
      obtain ⟨o2, b1, b2, b3⟩ := ih
      exact ⟨o1 ++ o2, a1.append b1, fun a ha => (List.mem_append.mp ha).elim (a2 a) (b2 a), .cons a3 b3⟩
  intro k
  induction k with
  | zero => exact fun h => ⟨[], List.nil_sublist _, by simp, h⟩
  | succ k ih =>
    intro v d o h
    cases d with
    | lst l =>
      obtain ⟨a, vs, os, rfl, e, r, rfl⟩ := h
      obtain ⟨o', h1, h2, h3⟩ := key _ (fun v d o h => ih h) r
      exact ⟨a :: o', h1.cons_cons a, fun b hb => by
        rcases List.mem_cons.mp hb with rfl | hb
        · rw [e]; simp
        · exact h2 b hb, a, vs, o', rfl, e, h3, rfl⟩
    | dct t l =>
      rcases h with ⟨a, kvs, os, rfl, rfl, e, ek, r, rfl⟩ | ⟨a, kvs, os, rfl, rfl, e, ek, r, rfl⟩
      · obtain ⟨o', h1, h2, h3⟩ := key _ (fun v d o h => ih h) r
        exact ⟨a :: o', h1.cons_cons a, fun b hb => by
          rcases List.mem_cons.mp hb with rfl | hb
          · rw [e]; simp
          · exact h2 b hb, .inl ⟨a, kvs, o', rfl, rfl, e, ek, h3, rfl⟩⟩
      · obtain ⟨o', h1, h2, h3⟩ := key _ (fun v d o h => ih h) r
        exact ⟨a :: o', h1.cons_cons a, fun b hb => by
          rcases List.mem_cons.mp hb with rfl | hb
          · rw [e]; simp
          · exact h2 b hb, .inr ⟨a, kvs, o', rfl, rfl, e, ek, h3, rfl⟩⟩
    | _ => exact ⟨[], List.nil_sublist _, by simp, h⟩
/-- a comprehension at turn i: what is made so far -/
structure LcI (y : Yx) (P : Addr → Prop) (H H1 : Hp) (Dn : Addr) (ke i : Nat) (Hc : Hp) (sc : Src) (acc : List V) (dacc : List D) (o : List Addr) : Prop where
  ext : Ext y H1 Hc
  src : SrcAt y Hc sc
  at_ : Hc Dn = some (.lst acc)
  ow : OwL (Ow y.sa (fun a => Pn P H a ∧ a ≠ Dn ∧ a ∉ o) Hc ke) acc dacc o
  new : ∀ a ∈ o, H1 a = none ∧ a ≠ Dn
  nd : o.Nodup
  dom : ∀ a ∈ o, Hc a ≠ none
  len : dacc.length ≤ i
section
variable {y : Yx} {P : Addr → Prop} {H H1 Hc H' : Hp} {Dn : Addr} {ke i : Nat} {sc s' : Src} {acc : List V} {dacc : List D} {o : List Addr} {s1 : Src}
theorem LcI.to (h : LcI y P H H1 Dn ke i Hc sc acc dacc o) (p : Pok y (Pn P H)) (h1 : SrcAt y H1 s1) (hD : H1 Dn = none) (x : Ext y Hc H') (hs : SrcAt y H' s') : LcI y P H H1 Dn ke (i + 1) H' s' acc dacc o := by
  have fr : ∀ a, H1 a = none → a ≠ y.sa ∧ a ≠ y.ca := fun a e => ⟨by rintro rfl; exact h1.sa e, by rintro rfl; exact h1.ca e⟩
  refine ⟨h.ext.trans x, hs, x _ _ (fr Dn hD).1 (fr Dn hD).2 h.at_, h.ow.imp fun v d o' _ ho r => r.mono ke (fun a u q e => ⟨q, x a u (p a q.1).1 (p a q.1).2 e⟩) (fun a u ha e => x a u (fr a (h.new a (ho a ha)).1).1 (fr a (h.new a (ho a ha)).1).2 e) fun a xs e => x.tup h.src e, h.new, h.nd, fun a ha => ?_, Nat.le_succ_of_le h.len⟩
  cases e : Hc a with
  | none => exact absurd e (h.dom a ha)
  | some u => rw [x a u (fr a (h.new a ha).1).1 (fr a (h.new a ha).1).2 e]; simp
/-- one more -/
theorem LcI.app {H3 H4 : Hp} {s3 s4 : Src} {v : V} {d : D} {oe : List Addr} (h : LcI y P H H1 Dn ke (i + 1) H3 s3 acc dacc o) (p : Pok y (Pn P H)) (h1 : SrcAt y H1 s1) (hD : H1 Dn = none) (x1 : Ext y H H1) (x : Ext y H3 H4) (hs : SrcAt y H4 s4)
    (no : ∀ a ∈ oe, H3 a = none) (nd : oe.Nodup) (r : Ow y.sa (fun a => Pn (fun a => Pn P H a ∧ H1 a ≠ none) H3 a ∧ a ∉ oe) H4 ke v d oe) (hl : dacc.length ≤ i) :
    ∃ o', LcI y P H H1 Dn ke (i + 1) (upd H4 Dn (.lst (acc ++ [v]))) s4 (acc ++ [v]) (dacc ++ [d]) o' := by
  obtain ⟨oe', t1, t2, t3⟩ := r.trim
  have sub : ∀ a ∈ oe', a ∈ oe := fun a ha => t1.subset ha
  have fr : ∀ a, H1 a = none → a ≠ y.sa ∧ a ≠ y.ca := fun a e => ⟨by rintro rfl; exact h1.sa e, by rintro rfl; exact h1.ca e⟩
  have x4 : Ext y H1 H4 := h.ext.trans x
  have nD3 : H3 Dn ≠ none := by rw [h.at_]; simp
  have oD : ∀ a ∈ oe', a ≠ Dn := fun a ha e => nD3 (e ▸ no a (sub a ha))
  have oo : ∀ a ∈ o, ∀ b ∈ oe', a ≠ b := fun a ha b hb e => h.dom a ha (e ▸ no b (sub b hb))
  have k4 : ∀ a ∈ o, ∀ u, H3 a = some u → H4 a = some u := fun a ha u e => x a u (fr a (h.new a ha).1).1 (fr a (h.new a ha).1).2 e
  refine ⟨o ++ oe', ?_, ?_, upd_same, ?_, ?_, ?_, ?_, ?_⟩
  · intro a u n1 n2 e
    rw [upd_ne (ne_of_none e hD)]
    exact x4 a u n1 n2 e
  · have e1 : y.sa ≠ Dn := fun e => h1.sa (e ▸ hD)
    have e2 : y.ca ≠ Dn := fun e => h1.ca (e ▸ hD)
    exact ⟨by rw [upd_ne e1]; exact hs.1, by rw [upd_ne e2]; exact hs.2⟩
  · refine OwL.snoc (h.ow.imp fun v d o' _ ho q => q.mono ke (fun a u z e => ⟨⟨z.1, z.2.1, ?_⟩, ?_⟩) (fun a u ha e => ?_) fun a xs e => ?_) (t3.mono ke (fun a u z e => ⟨?_, ?_⟩) (fun a u ha e => ?_) fun a xs e => ?_)
    · intro hm
      rcases List.mem_append.mp hm with hm | hm
      · exact z.2.2 hm
      · rw [no a (sub a hm)] at e; cases e
    · rw [upd_ne z.2.1]; exact x a u (p a z.1).1 (p a z.1).2 e
    · rw [upd_ne (h.new a (ho a ha)).2]; exact k4 a (ho a ha) u e
    · rw [upd_ne (by rintro rfl; rw [h.at_] at e; cases e)]; exact x.tup h.src e
    · refine ⟨?_, ?_, ?_⟩
      · rcases z.1 with q | q
        · exact q.1
        · exact .inr (x1.back h1 (h.ext.back h.src q))
      · rcases z.1 with q | q
        · exact fun e => q.2 (e ▸ hD)
        · exact fun e => nD3 (e ▸ q)
      · intro hm
        rcases List.mem_append.mp hm with hm | hm
        · rcases z.1 with q | q
          · exact q.2 (h.new a hm).1
          · exact h.dom a hm q
        · exact z.2 (sub a hm)
    · rw [upd_ne ?_]
      · exact e
      · rcases z.1 with q | q
        · exact fun e => q.2 (e ▸ hD)
        · exact fun e => nD3 (e ▸ q)
    · rw [upd_ne (oD a ha)]; exact e
    · have n4 : H4 Dn = some (.lst acc) := x _ _ (fr Dn hD).1 (fr Dn hD).2 h.at_
      rw [upd_ne (by rintro rfl; rw [n4] at e; cases e)]; exact e
  · intro a ha
    rcases List.mem_append.mp ha with ha | ha
    · exact h.new a ha
    · exact ⟨h.ext.back h.src (no a (sub a ha)), oD a ha⟩
  · exact List.nodup_append.mpr ⟨h.nd, t1.nodup nd, fun a ha b hb => oo a ha b hb⟩
  · intro a ha
    rcases List.mem_append.mp ha with ha | ha
    · rw [upd_ne (h.new a ha).2]
      cases e : H3 a with
      | none => exact absurd e (h.dom a ha)
      | some u => rw [k4 a ha u e]; simp
    · rw [upd_ne (oD a ha)]; exact t2 a ha
  · simp; exact hl
end
theorem rp_dom {sa : Addr} {P : Addr → Prop} {H : Hp} {v : V} {d : D} (r : Rp sa P H v d) : Rp sa (fun a => P a ∧ H a ≠ none) H v d := r.mono (fun a o p e => ⟨⟨p, by rw [e]; simp⟩, e⟩) fun _ _ e => e
theorem lc_imp {y : Yx} {EE : XK} {ke : Nat} {own : List (Str × Nat)} {ml : LM} {p : Pat} {g : TG} {mt : TM} {me : EM} (hpr : PatRun p g) (hp : ∀ i ∈ p.slots, i ∈ own.map (·.2)) {σ : L2.St} {H : Hp} {Q : VK} (h : rdE y EE (ke + 1) (eLc (own.map (·.2)) ml p mt me) σ H Q) :
    tLc (rdI y EE ml) g (rdT y F0 mt) (rdE y F0 ke me) (own.map (·.2)) σ H Q := by
  obtain ⟨P, env, s, st, q⟩ := h
  have b := st.bs
  have q' : ((ml y.R env s).bind fun ds s => (lcGo y.R (wipeE env (own.map (·.2))) p mt me ds s).bind fun ys s => (Res.ok (D.lst ys) s : Res D)).sat (Post y (ke + 1) P H Q) (XW y EE H) := q
  refine ⟨P, env, s, st, Res.sat_mono (Res.sat_bind q') (fun items s1 z J H1 srcs x1 hs1 hsr yr hlen Dn hD => ?_) fun _ _ w => w⟩
  have pk : Pok y (Pn P H) := b.pok
  have p1k : Pok y (fun a => Pn P H a ∧ H1 a ≠ none) := fun a q => pk a q.1
  have b1 := b.to x1 hs1
  have re1 : RE y.sa (fun a => Pn P H a ∧ H1 a ≠ none) env σ H1 := b1.re.mono fun v d r => rp_dom r
  have sr1 : ∀ p ∈ srcs, Rp y.sa (fun a => Pn P H a ∧ H1 a ≠ none) H1 p.1 p.2 := fun p hp => rp_dom (hsr p hp)
  have fr : ∀ a, H1 a = none → a ≠ y.sa ∧ a ≠ y.ca := fun a e => ⟨by rintro rfl; exact hs1.sa e, by rintro rfl; exact hs1.ca e⟩
  refine ⟨fun i m Hc => m = items.length - i ∧ i ≤ items.length ∧ ∃ sc acc dacc o, LcI y P H H1 Dn ke i Hc sc acc dacc o ∧
      ((lcGo y.R (wipeE env (own.map (·.2))) p mt me (items.drop i) sc).bind fun ys s => (Res.ok (D.lst (dacc ++ ys)) s : Res D)).sat (Post y (ke + 1) P H Q) (XW y EE H), ⟨items.length, by simp, Nat.zero_le _, s1, [], [], [], ⟨(Ex.new hD).ext, hs1.ex (Ex.new hD), upd_same, .nil, by simp, .nil, by simp, Nat.le_refl _⟩, by simpa using z⟩, ?_⟩
  rintro i m Hc ⟨rfl, hle, sc, acc, dacc, o, I, go⟩
  have srC : ∀ p ∈ srcs, Rp y.sa (fun a => Pn P H a ∧ H1 a ≠ none) Hc p.1 p.2 := fun p hp => (sr1 p hp).ext p1k hs1 I.ext
  rcases Nat.lt_or_ge i items.length with hlt | hge
  · right
    obtain ⟨jg, st⟩ := (yr _).go i Hc srC hlt
    refine ⟨jg, fun H' => ∃ sc acc dacc o, LcI y P H H1 Dn ke (i + 1) H' sc acc dacc o ∧
      ((lcGo y.R (wipeE env (own.map (·.2))) p mt me (items.drop (i + 1)) sc).bind fun ys s => (Res.ok (D.lst (dacc ++ ys)) s : Res D)).sat (Post y (ke + 1) P H Q) (XW y EE H), fun H' w => ⟨items.length - (i + 1), by omega, rfl, hlt, w⟩, fun xv H' hy => ?_⟩
    obtain ⟨xC, d, hd, rx⟩ := st xv H' hy
    have hdr : items.drop i = d :: items.drop (i + 1) := by
      rw [List.drop_eq_getElem_cons hlt]
      congr 1
      rw [List.getElem?_eq_getElem hlt] at hd
      exact Option.some.inj hd
    rw [hdr] at go
    cases hset : p.set d (wipeE env (own.map (·.2))) with
    | none => simp only [lcGo, hset] at go; exact go.elim
    | some env' =>
      simp only [lcGo, hset] at go
      have sC : SrcAt y H' sc := I.src.ex xC
      have I' := I.to (i := i) pk hs1 hD xC.ext sC
      have re' : RE y.sa (fun a => Pn P H a ∧ H1 a ≠ none) (wipeE env (own.map (·.2))) (wipe σ (own.map (·.2))) H' := (re1.wipe _).mono fun v d r => (r.ext p1k hs1 I.ext).ex xC
      refine hpr y.sa _ xv d _ env' _ H' _ rx hset fun ws ds rl es _ => ⟨by rw [wipe_setV hp, wipe_wipe], ?_⟩
      have re2 := RE.setAll re' rl es
      rw [show ∀ (r : Res (List D)), (r.bind fun ys s => (Res.ok (D.lst (dacc ++ ys)) s : Res D)) = r.bind fun ys s => Res.ok (D.lst (dacc ++ ys)) s from fun _ => rfl] at go
      have go1 : ((mt y.R env' sc).nox.bind fun c s => (if c = true then (me y.R env' s).nox.bind fun y' s => (lcGo y.R (wipeE env (own.map (·.2))) p mt me (items.drop (i + 1)) s).bind fun ys s => (Res.ok (y' :: ys) s : Res (List D)) else lcGo y.R (wipeE env (own.map (·.2))) p mt me (items.drop (i + 1)) s).bind fun ys s => (Res.ok (D.lst (dacc ++ ys)) s : Res D)).sat (Post y (ke + 1) P H Q) (XW y EE H) := by
        revert go
        cases mt y.R env' sc <;> exact fun h => h
      refine ⟨_, env', sc, ⟨p1k, re2, sC⟩, Res.sat_mono (nox_sat (y := y) (H' := H') go1) (fun c s3 w H3 x3 hs3 => ?_) fun _ _ w => w⟩
      have I3 := I.to (i := i) pk hs1 hD (xC.ext.trans x3) hs3
      cases c with
      | false =>
        simp only [Bool.false_eq_true, if_false] at w ⊢
        exact ⟨s3, acc, dacc, o, I3, w⟩
      | true =>
        simp only [if_true] at w ⊢
        have go2 : ((me y.R env' s3).nox.bind fun y' s => ((lcGo y.R (wipeE env (own.map (·.2))) p mt me (items.drop (i + 1)) s).bind fun ys s => (Res.ok (D.lst ((dacc ++ [y']) ++ ys)) s : Res D))).sat (Post y (ke + 1) P H Q) (XW y EE H) := by
          revert w
          cases me y.R env' s3 with
          | ok y' s4 =>
            simp only [Res.nox, Res.bind]
            cases lcGo y.R (wipeE env (own.map (·.2))) p mt me (items.drop (i + 1)) s4 <;> simp
          | ex e s4 => exact fun h => h
          | no => exact fun h => h
        refine ⟨_, env', s3, ⟨p1k, re2.mono fun v d r => r.ext p1k sC x3, hs3⟩, Res.sat_mono (nox_sat (y := y) (H' := H3) go2) (fun dv s4 w4 vv H4 oe x4 hs4 no nd ow => ?_) fun _ _ w => w⟩
        obtain ⟨o', I4⟩ := I3.app pk hs1 hD x1 x4 hs4 no nd ow I.len
        refine ⟨acc, x4 _ _ (fr Dn hD).1 (fr Dn hD).2 I3.at_, ?_, s4, _, _, o', I4, w4⟩
        have := OwL.length I.ow
        have := I.len
        omega
  · left
    have e : i = items.length := by omega
    subst e
    refine ⟨(yr _).stop Hc srC, ?_⟩
    rw [List.drop_length] at go
    have go' : Post y (ke + 1) P H Q (.lst (dacc ++ [])) sc := go
    rw [List.append_nil] at go'
    refine go' (.ref Dn) Hc (Dn :: o) (x1.trans I.ext) I.src ?_ ?_ ⟨Dn, acc, o, rfl, I.at_, I.ow.imp fun v d o' _ _ r => r.mono ke (fun a u q e => ⟨⟨q.1, by simp [q.2.1, q.2.2]⟩, e⟩) (fun _ _ _ e => e) fun _ _ e => e, rfl⟩
    · intro a ha
      rcases List.mem_cons.mp ha with rfl | ha
      · exact x1.back hs1 hD
      · exact x1.back hs1 (I.new a ha).1
    · exact List.nodup_cons.mpr ⟨fun h => (I.new Dn h).2 rfl, I.nd⟩
theorem e_lc {y : Yx} {X : Cx} {EE : XK} {ke : Nat} {elt tg iter : Expr} {ifs : List Expr} {scope : Scope} {own : List (Str × Nat)} {pos : Pos} {ml : LM} {p : Pat} {g : TG} {mt : TM} {me : EM} (hc : X.calm = true) (hN : X.N.Nodup) (hi : PI X tg iter (rdI y EE ml))
    (ok : BlkOk X.N X.env.scope scope own)
    (hg : ∀ (s : Shared) (H : Hp) (C : Addr) (cl : List (Str × Addr)) (fp : List Addr), PG (X.blk s H scope (compEnvC scope cl C X.env) fp) tg g) (hpr : PatRun p g)
    (ht : ∀ (s : Shared) (H : Hp) (C : Addr) (cl : List (Str × Addr)) (fp : List Addr), PTs (X.blk s H scope (compEnvC scope cl C X.env) fp) ifs (rdT y F0 mt))
    (he : ∀ (s : Shared) (H : Hp) (C : Addr) (cl : List (Str × Addr)) (fp : List Addr), PE (X.blk s H scope (compEnvC scope cl C X.env) fp) elt (rdE y F0 ke me))
    (hs : ∀ x, foldedSetIterable iter X.env x = pure x) (hp : ∀ i ∈ p.slots, i ∈ own.map (·.2)) :
    PE X (.ListComp elt [⟨tg, iter, ifs, 0⟩] scope pos) (rdE y EE (ke + 1) (eLc (own.map (·.2)) ml p mt me)) :=
  PE.imp (pe_lc hc hN hi ok hg ht he hs) fun σ H Q q => lc_imp hpr hp q
end Lt

/-! Lt: statements. Names that are changed in place own what they change. -/
namespace Lt
open PySem PySem.Spec PyProof.Rows L2

/-- the depth to which a name's value is owned -/
def dep (mt : List (Nat × Nat)) (i : Nat) : Nat := (mt.lookup i).getD 0
def hots (mt : List (Nat × Nat)) : List Nat := mt.map (·.1)
theorem lk_mem {i k : Nat} : ∀ {mt : List (Nat × Nat)}, mt.lookup i = some k → (i, k) ∈ mt
  | [], h => by simp at h
  | (j, l) :: mt, h => by
    rw [List.lookup_cons] at h
    split at h
    · rename_i e
      have e' : i = j := by simpa using e
      cases h; subst e'; simp
    · exact List.mem_cons_of_mem _ (lk_mem h)
theorem dep_hot {mt : List (Nat × Nat)} {i : Nat} (h : i ∉ hots mt) : dep mt i = 0 := by
  unfold dep
  cases e : mt.lookup i with
  | none => rfl
  | some k => exact absurd (List.mem_map.mpr ⟨(i, k), lk_mem e, rfl⟩) h

structure RSo (y : Yx) (P0 : Addr → Prop) (H0 : Hp) (mt : List (Nat × Nat)) (cold : Addr → Prop) (own : Nat → List Addr) (env : Env) (s : Src) (σ : L2.St) (H : Hp) : Prop where
  ext : Ext y H0 H
  src : SrcAt y H s
  src0 : ∃ s0, SrcAt y H0 s0
  pok : Pok y P0
  cn : ∀ a, cold a → Pn P0 H0 a
  len : σ.length = env.length
  val : ∀ i d, env[i]? = some (some d) → ∃ v, σ[i]? = some (some v) ∧ Ow y.sa cold H (dep mt i) v d (own i)
  onew : ∀ i a, a ∈ own i → H0 a = none ∧ H a ≠ none ∧ ¬ cold a
  nd : ∀ i, (own i).Nodup
  dis : ∀ i j a, i ≠ j → a ∈ own i → a ∉ own j
def RS (y : Yx) (P0 : Addr → Prop) (H0 : Hp) (mt : List (Nat × Nat)) (cold : Addr → Prop) (env : Env) (s : Src) (σ : L2.St) (H : Hp) : Prop := ∃ own, RSo y P0 H0 mt cold own env s σ H
/-- what is not owned stays -/
def Fr (cold : Addr → Prop) (H : Hp) (cold' : Addr → Prop) (H' : Hp) : Prop := (∀ a, cold a → H a ≠ none → cold' a ∧ H' a = H a) ∧ ∀ a xs, H a = some (.tup xs) → H' a = some (.tup xs)
def upo (own : Nat → List Addr) (i : Nat) (o : List Addr) : Nat → List Addr := fun j => if j = i then o else own j
section
variable {y : Yx} {P0 cold cold' : Addr → Prop} {H0 H H' : Hp} {mt : List (Nat × Nat)} {own : Nat → List Addr} {env : Env} {s s' : Src} {σ : L2.St}
theorem Fr.refl : Fr cold H cold H := ⟨fun a h _ => ⟨h, rfl⟩, fun _ _ e => e⟩
theorem Fr.trans {c1 c2 c3 : Addr → Prop} {H1 H2 H3 : Hp} (a : Fr c1 H1 c2 H2) (b : Fr c2 H2 c3 H3) : Fr c1 H1 c3 H3 := ⟨fun x h n => by
  obtain ⟨h1, h2⟩ := a.1 x h n
  obtain ⟨h3, h4⟩ := b.1 x h1 (by rw [h2]; exact n)
  exact ⟨h3, h4.trans h2⟩, fun x xs e => b.2 x xs (a.2 x xs e)⟩
theorem RSo.pok0 (h : RSo y P0 H0 mt cold own env s σ H) : Pok y (Pn P0 H0) := by
  obtain ⟨s0, e⟩ := h.src0
  exact h.pok.pn e
theorem RSo.ck (h : RSo y P0 H0 mt cold own env s σ H) : Pok y cold := fun a q => h.pok0 a (h.cn a q)
theorem RSo.ok' (h : RSo y P0 H0 mt cold own env s σ H) {i : Nat} {a : Addr} (ha : a ∈ own i) : a ≠ y.sa ∧ a ≠ y.ca := h.pok0 a (.inr (h.onew i a ha).1)
/-- all that the names reach -/
def full (cold : Addr → Prop) (own : Nat → List Addr) (a : Addr) : Prop := cold a ∨ ∃ i, a ∈ own i
theorem RSo.full (h : RSo y P0 H0 mt cold own env s σ H) : St0 y (full cold own) env s σ H :=
  ⟨fun a q => by
    rcases q with q | ⟨i, q⟩
    · exact h.ck a q
    · exact h.ok' q, ⟨h.len, fun i d e => let ⟨v, h1, h2⟩ := h.val i d e; ⟨v, h1, h2.rp _ (fun a q => .inl q) fun a q => .inr ⟨i, q⟩⟩⟩, h.src⟩
theorem wipeE_length (env : Env) : ∀ vs : List Nat, (wipeE env vs).length = env.length
  | [] => rfl
  | v :: vs => by simp only [wipeE]; rw [List.length_set]; exact wipeE_length env vs
theorem wipeE_some {env : Env} {i : Nat} {d : D} : ∀ {vs : List Nat}, (wipeE env vs)[i]? = some (some d) → env[i]? = some (some d) ∧ i ∉ vs
  | [], h => ⟨h, by simp⟩
  | v :: vs, h => by
    simp only [wipeE] at h
    by_cases hv : v = i
    · subst hv
      rcases Nat.lt_or_ge v (wipeE env vs).length with q | q
      · rw [List.getElem?_set_self q] at h; cases h
      · rw [List.getElem?_eq_none (by rw [List.length_set]; exact q)] at h; cases h
    · rw [List.getElem?_set_ne hv] at h
      obtain ⟨h1, h2⟩ := wipeE_some h
      exact ⟨h1, by simp [h2, Ne.symm hv]⟩
theorem RSo.masked (h : RSo y P0 H0 mt cold own env s σ H) : St0 y cold (mask (hots mt) env) s σ H :=
  ⟨h.ck, ⟨by rw [mask, wipeE_length]; exact h.len, fun i d e => by
    obtain ⟨e1, e2⟩ := wipeE_some e
    obtain ⟨v, h1, h2⟩ := h.val i d e1
    rw [dep_hot e2] at h2
    exact ⟨v, h1, h2⟩⟩, h.src⟩
/-- the heap grows, and more is not owned -/
theorem RSo.to2 (h : RSo y P0 H0 mt cold own env s σ H) (x : Ext y H H') (hs : SrcAt y H' s') (hc : ∀ a, cold a → H a ≠ none → cold' a) (h1 : ∀ a, cold' a → Pn P0 H0 a) (h2 : ∀ i a, a ∈ own i → ¬ cold' a) : RSo y P0 H0 mt cold' own env s' σ H' :=
  ⟨h.ext.trans x, hs, h.src0, h.pok, h1, h.len, fun i d e => let ⟨v, h1, h2⟩ := h.val i d e
    ⟨v, h1, h2.mono _ (fun a u q e => ⟨hc a q (by rw [e]; simp), x a u (h.ck a q).1 (h.ck a q).2 e⟩) (fun a u q e => x a u (h.ok' q).1 (h.ok' q).2 e) fun a xs e => x.tup h.src e⟩,
    fun i a ha => ⟨(h.onew i a ha).1, by
      cases e : H a with
      | none => exact absurd e (h.onew i a ha).2.1
      | some u => rw [x a u (h.ok' ha).1 (h.ok' ha).2 e]; simp, h2 i a ha⟩, h.nd, h.dis⟩
theorem RSo.to (h : RSo y P0 H0 mt cold own env s σ H) (x : Ext y H H') (hs : SrcAt y H' s') : RSo y P0 H0 mt cold own env s' σ H' := h.to2 x hs (fun _ q _ => q) h.cn fun i a ha => (h.onew i a ha).2.2
theorem Ow.sub {sa : Addr} {P : Addr → Prop} {H : Hp} {v : V} {d : D} {o : List Addr} (h : Ow sa P H 0 v d o) (o' : List Addr) : Ow sa P H 0 v d o' := h
/-- a name gets a value -/
theorem RSo.set (h : RSo y P0 H0 mt cold own env s σ H) {i : Nat} {v : V} {d : D} {o : List Addr} (r : Ow y.sa cold H (dep mt i) v d o) (nd : o.Nodup)
    (no : ∀ a ∈ o, H0 a = none ∧ H a ≠ none ∧ ¬ cold a ∧ ∀ j, j ≠ i → a ∉ own j) : RSo y P0 H0 mt cold (upo own i o) (env.set i (some d)) s (σ.set i (some v)) H := by
  refine ⟨h.ext, h.src, h.src0, h.pok, h.cn, by rw [List.length_set, List.length_set]; exact h.len, fun j e hj => ?_, fun j a ha => ?_, fun j => ?_, fun j k a hjk ha => ?_⟩
  · by_cases hij : i = j
    · subst hij
      have hlt : i < env.length := by
        rcases Nat.lt_or_ge i env.length with q | q
        · exact q
        · rw [List.getElem?_eq_none (by rw [List.length_set]; exact q)] at hj; cases hj
      rw [List.getElem?_set_self hlt] at hj
      cases hj
      exact ⟨v, List.getElem?_set_self (by have := h.len; omega), by simpa [upo] using r⟩
    · rw [List.getElem?_set_ne hij] at hj
      obtain ⟨w, h1, h2⟩ := h.val j e hj
      exact ⟨w, (List.getElem?_set_ne hij).trans h1, by simpa [upo, Ne.symm hij] using h2⟩
  · unfold upo at ha
    split at ha
    · exact ⟨(no a ha).1, (no a ha).2.1, (no a ha).2.2.1⟩
    · exact h.onew j a ha
  · unfold upo
    split
    · exact nd
    · exact h.nd j
  · unfold upo at ha ⊢
    split at ha <;> split
    · rename_i e1 e2; exact absurd (e1.trans e2.symm) hjk
    · rename_i e1 e2; exact (no a ha).2.2.2 k e2
    · rename_i e1 e2; exact fun hm => (no a hm).2.2.2 j e1 ha
    · exact h.dis j k a hjk ha
/-- an expression's end: what it gave is in a name -/
theorem RSo.step (h : RSo y P0 H0 mt cold own env s σ H) (x : Ext y H H') (hs : SrcAt y H' s') {i : Nat} {v : V} {d : D} {o : List Addr} (no : ∀ a ∈ o, H a = none) (nd : o.Nodup) (r : Ow y.sa (fun a => Pn cold H a ∧ a ∉ o) H' (dep mt i) v d o) :
    ∃ cold', RS y P0 H0 mt cold' (env.set i (some d)) s' (σ.set i (some v)) H' ∧ Fr cold H cold' H' := by
  obtain ⟨o', t1, t2, t3⟩ := r.trim
  have sub : ∀ a ∈ o', a ∈ o := fun a ha => t1.subset ha
  have w := h.to2 (cold' := fun a => Pn cold H a ∧ a ∉ o') x hs (fun a q n => ⟨.inl q, fun z => n (no a (sub a z))⟩) (fun a q => ?_) (fun j a ha q => ?_)
  refine ⟨_, ⟨_, w.set (t3.mono _ (fun a u q e => ⟨⟨q.1, fun z => q.2 (sub a z)⟩, e⟩) (fun _ _ _ e => e) fun _ _ e => e) (t1.nodup nd) fun a ha => ⟨h.ext.back h.src (no a (sub a ha)), t2 a ha, fun q => q.2 ha, fun j _ hm => (h.onew j a hm).2.1 (no a (sub a ha))⟩⟩, fun a q n => ⟨⟨.inl q, fun z => n (no a (sub a z))⟩, ?_⟩, fun a xs e => x.tup h.src e⟩
  · cases e : H a with
    | none => exact absurd e n
    | some u => exact x a u (h.ck a q).1 (h.ck a q).2 e
  · rcases q.1 with q | q
    · exact h.cn a q
    · exact .inr (h.ext.back h.src q)
  · rcases q.1 with q | q
    · exact (h.onew j a ha).2.2 q
    · exact (h.onew j a ha).2.1 q
/-- names that own nothing get values -/
theorem setAll_rs : ∀ {is : List Nat} {ws : List V} {ds : List D} {own : Nat → List Addr} {env env' : Env} {σ : L2.St}, RSo y P0 H0 mt cold own env s σ H → (∀ i ∈ is, dep mt i = 0) → RpL y.sa cold H ws ds → Lt.setAll is ds env = some env' → RS y P0 H0 mt cold env' s (setV is ws σ) H
  | [], _, _, own, env, env', σ, h, _, .nil, e => by simp [Lt.setAll] at e; subst e; exact ⟨own, h⟩
  | [], _, _, own, env, env', σ, h, _, .cons _ _, e => by simp [Lt.setAll] at e
  | _ :: _, _, _, own, env, env', σ, h, _, .nil, e => by simp [Lt.setAll] at e
  | i :: is, _, _, own, env, env', σ, h, hi, .cons (v := v) (vs := vs) (d := d) (ds := ds) r rs, e => by
    have e' : Lt.setAll is ds (env.set i (some d)) = some env' := e
    have q := h.set (i := i) (v := v) (d := d) (o := []) (by rw [hi i (by simp)]; exact r) .nil (by simp)
    have q2 := setAll_rs q (fun j hj => hi j (by simp [hj])) rs e'
    exact q2
/-- .. the heap grown -/
theorem RSo.grow (h : RSo y P0 H0 mt cold own env s σ H) (x : Ext y H H') (hs : SrcAt y H' s') : ∃ cold', RSo y P0 H0 mt cold' own env s' σ H' ∧ Fr cold H cold' H' ∧ ∀ a, Pn cold H a → cold' a := by
  refine ⟨Pn cold H, h.to2 x hs (fun a q _ => .inl q) (fun a q => ?_) (fun j a ha q => ?_), ⟨fun a q n => ⟨.inl q, ?_⟩, fun a xs e => x.tup h.src e⟩, fun _ q => q⟩
  · rcases q with q | q
    · exact h.cn a q
    · exact .inr (h.ext.back h.src q)
  · rcases q with q | q
    · exact (h.onew j a ha).2.2 q
    · exact (h.onew j a ha).2.1 q
  · cases e : H a with
    | none => exact absurd e n
    | some u => exact x a u (h.ck a q).1 (h.ck a q).2 e
/-- what a def's body returns -/
theorem RSo.back (h : RSo y P0 H0 mt cold own env s σ H) : ∀ a, Pn (Lt.full cold own) H a → Pn P0 H0 a := fun a q => by
  rcases q with (q | ⟨i, q⟩) | q
  · exact h.cn a q
  · exact .inr (h.onew i a q).1
  · exact .inr (h.ext.back h.src q)
end

/-! ### readings -/
/-- what is wanted behind a statement -/
def EndW (y : Yx) (mt : List (Nat × Nat)) (kr : Nat) (P0 : Addr → Prop) (H0 : Hp) (cold : Addr → Prop) (H : Hp) (D : Ends) : Out → Src → Prop := fun o s' => match o with
  | .nx env' => ∀ cold' σ' H', Fr cold H cold' H' → RS y P0 H0 mt cold' env' s' σ' H' → D.nx σ' H'
  | .bk env' => ∀ cold' σ' H', Fr cold H cold' H' → RS y P0 H0 mt cold' env' s' σ' H' → D.bk σ' H'
  | .ct env' => ∀ cold' σ' H', Fr cold H cold' H' → RS y P0 H0 mt cold' env' s' σ' H' → D.ct σ' H'
  | .rt d => Post y kr P0 H0 D.rt d s'
def rdS (y : Yx) (EE : XK) (mt : List (Nat × Nat)) (kr : Nat) (m : SM) : TS := fun D σ H => ∃ P0 H0 cold env s, RS y P0 H0 mt cold env s σ H ∧ (m y.R env s).sat (EndW y mt kr P0 H0 cold H D) (XW y EE H0)

section
variable {y : Yx} {X : Cx} {EE : XK} {mt : List (Nat × Nat)} {kr : Nat} {P0 cold : Addr → Prop} {H0 H : Hp} {own : Nat → List Addr} {env : Env} {s : Src} {σ : L2.St} {a b m : SM} {st : Stmt} {rest sa sb : List Stmt} {pos : Pos} {D : Ends}
theorem EndW.fr {cold' : Addr → Prop} {H' : Hp} {o : Out} {s' : Src} (h : EndW y mt kr P0 H0 cold H D o s') (f : Fr cold H cold' H') : EndW y mt kr P0 H0 cold' H' D o s' := by
  cases o with
  | nx env' => exact fun c2 σ2 H2 f2 r => h c2 σ2 H2 (f.trans f2) r
  | bk env' => exact fun c2 σ2 H2 f2 r => h c2 σ2 H2 (f.trans f2) r
  | ct env' => exact fun c2 σ2 H2 f2 r => h c2 σ2 H2 (f.trans f2) r
  | rt d => exact h
theorem s_nil : PSs X [] (rdS y EE mt kr sPass) := ⟨fun pins s σ H D I ⟨P0, H0, cold, env, sc, r, q⟩ => pss_nil.run pins s σ H D I ((show EndW y mt kr P0 H0 cold H D (.nx env) sc from q) _ _ _ Fr.refl r)⟩
theorem s_pass (h : PS X st tNext) : PS X st (rdS y EE mt kr sPass) := PS.imp h fun D σ H ⟨P0, H0, cold, env, sc, r, q⟩ => (show EndW y mt kr P0 H0 cold H D (.nx env) sc from q) _ _ _ Fr.refl r
theorem s_brk : PS X (.Break pos) (rdS y EE mt kr sBrk) := PS.imp ps_break fun D σ H ⟨P0, H0, cold, env, sc, r, q⟩ => (show EndW y mt kr P0 H0 cold H D (.bk env) sc from q) _ _ _ Fr.refl r
theorem s_cont : PS X (.Continue pos) (rdS y EE mt kr sCont) := PS.imp ps_continue fun D σ H ⟨P0, H0, cold, env, sc, r, q⟩ => (show EndW y mt kr P0 H0 cold H D (.ct env) sc from q) _ _ _ Fr.refl r
theorem s_cons (h1 : PS X st (rdS y EE mt kr a)) (h2 : PSs X rest (rdS y EE mt kr b)) : PSs X (st :: rest) (rdS y EE mt kr (sSeq a b)) :=
  PSs.imp (pss_cons h1 h2) fun D σ H ⟨P0, H0, cold, env, sc, r, q⟩ => by
    have q' : ((a y.R env sc).bind fun o s => match o with
      | .nx env => b y.R env s
      | o => .ok o s).sat (EndW y mt kr P0 H0 cold H D) (XW y EE H0) := q
    refine ⟨P0, H0, cold, env, sc, r, Res.sat_mono (Res.sat_bind q') (fun o s' z => ?_) fun _ _ z => z⟩
    cases o with
    | nx env' => exact fun c2 σ2 H2 f2 r2 => ⟨P0, H0, c2, env', s', r2, Res.sat_mono z (fun o s w => w.fr f2) fun _ _ w => w⟩
    | bk env' => exact z
    | ct env' => exact z
    | rt d => exact z
theorem s_one (h1 : PS X st (rdS y EE mt kr a)) : PSs X [st] (rdS y EE mt kr a) := PSs.imp (pss_one h1) fun D σ H q => q
theorem s_if {c : Expr} {mt' : TM} (hc : PT X c (rdT y EE mt')) (ha : PSs X sa (rdS y EE mt kr a)) (hb : PSs X sb (rdS y EE mt kr b)) : PS X (.If c sa sb pos) (rdS y EE mt kr (sIf mt' a b)) :=
  PS.imp (ps_if hc ha hb) fun D σ H ⟨P0, H0, cold, env, sc, ⟨own, r⟩, q⟩ => by
    have q' : ((mt' y.R env sc).bind fun c s => if c = true then a y.R env s else b y.R env s).sat (EndW y mt kr P0 H0 cold H D) (XW y EE H0) := q
    refine ⟨_, env, sc, r.full, Res.sat_mono (Res.sat_bind q') (fun c s' z H1 x hs => ?_) fun _ _ z => z.mono r.ext⟩
    obtain ⟨c1, r1, f1, _⟩ := r.grow x hs
    cases c with
    | true => exact ⟨P0, H0, c1, env, s', ⟨_, r1⟩, Res.sat_mono (by simpa using z) (fun o s w => EndW.fr w f1) fun _ _ w => w⟩
    | false => exact ⟨P0, H0, c1, env, s', ⟨_, r1⟩, Res.sat_mono (by simpa using z) (fun o s w => EndW.fr w f1) fun _ _ w => w⟩
theorem s_drop {e : Expr} {me : EM} (he : PE X e (rdE y EE 0 me)) (hs : swapsWith e none pos.line X.env = pure false) : PS X (.Expr e pos) (rdS y EE mt kr (sDrop me)) :=
  PS.imp (ps_expr he hs) fun D σ H ⟨P0, H0, cold, env, sc, ⟨own, r⟩, q⟩ => by
    have q' : ((me y.R env sc).bind fun _ s => (Res.ok (.nx env) s : Res Out)).sat (EndW y mt kr P0 H0 cold H D) (XW y EE H0) := q
    refine ⟨_, env, sc, r.full, Res.sat_mono (Res.sat_bind q') (fun c s' z v H1 o x hs _ _ _ => ?_) fun _ _ z => z.mono r.ext⟩
    obtain ⟨c1, r1, f1, _⟩ := r.grow x hs
    exact (show EndW y mt kr P0 H0 cold H D (.nx env) s' from z) _ _ _ f1 ⟨_, r1⟩
theorem s_ret {e : Expr} {me : EM} (he : PE X e (rdE y EE kr me)) : PS X (.Return (some e) pos) (rdS y EE mt kr (sRet me)) :=
  PS.imp (ps_ret he) fun D σ H ⟨P0, H0, cold, env, sc, ⟨own, r⟩, q⟩ => by
    have q' : ((me y.R env sc).bind fun d s => (Res.ok (.rt d) s : Res Out)).sat (EndW y mt kr P0 H0 cold H D) (XW y EE H0) := q
    refine ⟨_, env, sc, r.full, Res.sat_mono (Res.sat_bind q') (fun d s' z v H1 o x hs no nd w => ?_) fun _ _ z => z.mono r.ext⟩
    exact (show Post y kr P0 H0 D.rt d s' from z) v H1 o (r.ext.trans x) hs (fun a ha => r.ext.back r.src (no a ha)) nd (w.mono kr (fun a u q e => ⟨⟨r.back a q.1, q.2⟩, e⟩) (fun _ _ _ e => e) fun _ _ e => e)
theorem s_retN : PS X (.Return none pos) (rdS y EE mt kr sRetN) :=
  PS.imp ps_retN fun D σ H ⟨P0, H0, cold, env, sc, ⟨own, r⟩, q⟩ => by
    have q' : Post y kr P0 H0 D.rt .non sc := q
    exact q'.fix (n := 1) r.ext r.src .non rfl
/-- target = e, its names not among those that are changed -/
theorem s_asg {me : EM} {p : Pat} {g : TG} (hf : PS X st (tAsg (rdE y EE 0 me) g)) (hp : PatRun p g) (hi : ∀ i ∈ p.slots, dep mt i = 0) : PS X st (rdS y EE mt kr (sAsg (hots mt) p me)) :=
  PS.imp hf fun D σ H ⟨P0, H0, cold, env, sc, ⟨own, r⟩, q⟩ => by
    have q' : ((me y.R (mask (hots mt) env) sc).bind fun d s => match p.set d env with
      | some env => (.ok (.nx env) s : Res Out)
      | none => .no).sat (EndW y mt kr P0 H0 cold H D) (XW y EE H0) := q
    refine ⟨_, _, sc, r.masked, Res.sat_mono (Res.sat_bind q') (fun d s' z v H1 o x hs no nd w => ?_) fun _ _ z => z.mono r.ext⟩
    cases e : p.set d env with
    | none => rw [e] at z; exact z.elim
    | some env' =>
      rw [e] at z
      obtain ⟨c1, r1, f1, k1⟩ := r.grow x hs
      have w' : Rp y.sa c1 H1 v d := Rp.imp w fun a q => k1 a q.1
      refine hp y.sa c1 v d env env' σ H1 _ w' e fun ws ds rl es _ => ?_
      exact (show EndW y mt kr P0 H0 cold H D (.nx env') s' from z) _ _ _ f1 (setAll_rs r1 hi rl es)
/-- name = e, the name owns what it is -/
theorem s_asgH {me : EM} {i : Nat} (hf : PS X st (tAsg (rdE y EE (dep mt i) me) (gName i))) : PS X st (rdS y EE mt kr (sAsg (hots mt) (.nm i) me)) :=
  PS.imp hf fun D σ H ⟨P0, H0, cold, env, sc, ⟨own, r⟩, q⟩ => by
    have q' : ((me y.R (mask (hots mt) env) sc).bind fun d s => (.ok (.nx (env.set i (some d))) s : Res Out)).sat (EndW y mt kr P0 H0 cold H D) (XW y EE H0) := q
    refine ⟨_, _, sc, r.masked, Res.sat_mono (Res.sat_bind q') (fun d s' z v H1 o x hs no nd w => ?_) fun _ _ z => z.mono r.ext⟩
    obtain ⟨c1, r1, f1⟩ := r.step x hs no nd w
    exact (show EndW y mt kr P0 H0 cold H D (.nx _) s' from z) _ _ _ f1 r1
/-- name = e, e of names that are changed -/
theorem s_asgK {me : EM} {i : Nat} (hf : PS X st (tAsg (rdE y EE (dep mt i) me) (gName i))) : PS X st (rdS y EE mt kr (sAsgK (dep mt i) (.nm i) me)) :=
  PS.imp hf fun D σ H ⟨P0, H0, cold, env, sc, ⟨own, r⟩, q⟩ => by
    have q' : ((me y.R env sc).bind fun d s => if d.immK (dep mt i) then (.ok (.nx (env.set i (some d))) s : Res Out) else .no).sat (EndW y mt kr P0 H0 cold H D) (XW y EE H0) := q
    refine ⟨_, _, sc, r.full, Res.sat_mono (Res.sat_bind q') (fun d s' z v H1 o x hs no nd w => ?_) fun _ _ z => z.mono r.ext⟩
    split at z
    · rename_i hk
      obtain ⟨c1, r1, f1⟩ := r.step x hs no nd (Ow.immK _ _ w (Nat.le_refl _) hk)
      exact (show EndW y mt kr P0 H0 cold H D (.nx _) s' from z) _ _ _ f1 r1
    · exact z.elim
end
end Lt

/-! Lt: loops. -/
namespace Lt
open PySem PySem.Spec PyProof.Rows L2
section
variable {y : Yx} {X : Cx} {EE : XK} {mt : List (Nat × Nat)} {kr : Nat} {m : SM} {body : List Stmt} {pos : Pos} {tg iter c : Expr} {ml : LM} {tm : TM} {p : Pat} {g : TG}
theorem s_for (hpo : PassesOwn (model X.prog X.w) X.A X.env X.xe) (hc : X.calm = true) (hi : PI X tg iter (rdI y EE ml)) (hg : PG X tg g) (hp : PatRun p g) (hm : ∀ i ∈ p.slots, dep mt i = 0) (hb : PSs X body (rdS y EE mt kr m)) (hs : ∀ x, foldedSetIterable iter X.env x = pure x) :
    PS X (.For tg iter body [] pos) (rdS y EE mt kr (sFor (hots mt) ml p m)) :=
  PS.imp (ps_for hpo hc hi hg hb hs) fun D σ H ⟨P0, H0, cold, env, sc, ⟨own, r⟩, q⟩ => by
    have q' : ((ml y.R (mask (hots mt) env) sc).bind fun ds s => forGo y.R p m ds env s).sat (EndW y mt kr P0 H0 cold H D) (XW y EE H0) := q
    refine ⟨_, _, sc, r.masked, Res.sat_mono (Res.sat_bind q') (fun items s1 z J H1 srcs x1 hs1 hsr yr hlen => ?_) fun _ _ z => z.mono r.ext⟩
    obtain ⟨c1, r1, f1, k1⟩ := r.grow x1 hs1
    have sr1 : ∀ p ∈ srcs, Rp y.sa (fun a => c1 a ∧ H1 a ≠ none) H1 p.1 p.2 := fun p hp => rp_dom ((hsr p hp).imp k1)
    refine ⟨fun i m' σ' H' => m' = items.length - i ∧ i ≤ items.length ∧ ∃ cold' env' s', Fr c1 H1 cold' H' ∧ RS y P0 H0 mt cold' env' s' σ' H' ∧ (forGo y.R p m (items.drop i) env' s').sat (EndW y mt kr P0 H0 cold' H' D) (XW y EE H0),
      ⟨items.length, by simp, Nat.zero_le _, c1, env, s1, Fr.refl, ⟨_, r1⟩, Res.sat_mono (by simpa using z) (fun o s w => EndW.fr w f1) fun _ _ w => w⟩, ?_⟩
    rintro i m' σ' H' ⟨rfl, hle, c2, env', s', f2, ⟨own2, r2⟩, go⟩
    have sr2 : ∀ p ∈ srcs, Rp y.sa c2 H' p.1 p.2 := fun p hp => (sr1 p hp).mono (fun a u q e => ⟨(f2.1 a q.1 q.2).1, by rw [(f2.1 a q.1 q.2).2]; exact e⟩) f2.2
    rcases Nat.lt_or_ge i items.length with hlt | hge
    · right
      obtain ⟨jg, st⟩ := (yr c2).go i H' sr2 hlt
      refine ⟨jg, fun σ3 H3 => i + 1 ≤ items.length ∧ ∃ cold' env' s', Fr c1 H1 cold' H3 ∧ RS y P0 H0 mt cold' env' s' σ3 H3 ∧ (forGo y.R p m (items.drop (i + 1)) env' s').sat (EndW y mt kr P0 H0 cold' H3 D) (XW y EE H0),
        fun σ3 H3 w => ⟨items.length - (i + 1), by omega, rfl, w.1, w.2⟩, fun xv H2 hy => ?_⟩
      obtain ⟨xC, d, hd, rx⟩ := st xv H2 hy
      have hdr : items.drop i = d :: items.drop (i + 1) := by
        rw [List.drop_eq_getElem_cons hlt]
        congr 1
        rw [List.getElem?_eq_getElem hlt] at hd
        exact Option.some.inj hd
      rw [hdr] at go
      cases hset : p.set d env' with
      | none => simp only [forGo, hset] at go; exact go.elim
      | some env2 =>
        simp only [forGo, hset] at go
        have r3 := r2.to xC.ext (r2.src.ex xC)
        have f3 : Fr c2 H' c2 H2 := ⟨fun a q n => ⟨q, by
          cases e : H' a with
          | none => exact absurd e n
          | some u => exact xC a u e⟩, fun a xs e => xC a _ e⟩
        refine hp y.sa c2 xv d _ env2 _ H2 _ rx hset fun ws ds rl es _ => ?_
        have r4 := setAll_rs r3 hm rl es
        refine ⟨P0, H0, c2, env2, s', r4, Res.sat_mono (Res.sat_bind go) (fun o s3 w => ?_) fun _ _ w => w⟩
        cases o with
        | nx env3 => exact fun c3 σ3 H3 f4 r5 => ⟨hlt, c3, env3, s3, (f2.trans f3).trans f4, r5, Res.sat_mono w (fun o s w => EndW.fr w (f3.trans f4)) fun _ _ w => w⟩
        | ct env3 => exact fun c3 σ3 H3 f4 r5 => ⟨hlt, c3, env3, s3, (f2.trans f3).trans f4, r5, Res.sat_mono w (fun o s w => EndW.fr w (f3.trans f4)) fun _ _ w => w⟩
        | bk env3 => exact fun c3 σ3 H3 f4 r5 => (show EndW y mt kr P0 H0 c2 H' D (.nx env3) s3 from w) c3 σ3 H3 (f3.trans f4) r5
        | rt d => exact w
    · left
      have e : i = items.length := by omega
      subst e
      rw [List.drop_length] at go
      exact ⟨(yr c2).stop H' sr2, (show EndW y mt kr P0 H0 c2 H' D (.nx env') s' from go) _ _ _ Fr.refl ⟨_, r2⟩⟩
theorem s_while (hpo : PassesOwn (model X.prog X.w) X.A X.env X.xe) (ht : PT X c (rdT y EE tm)) (hb : PSs X body (rdS y EE mt kr m)) : PS X (.While c body [] pos) (rdS y EE mt kr (sWhile tm m)) :=
  PS.imp (ps_while hpo ht hb) fun D σ H ⟨P0, H0, cold, env, sc, r, q⟩ => by
    refine ⟨fun n σ' H' => ∃ cold' env' s', RS y P0 H0 mt cold' env' s' σ' H' ∧ (whGo y.R tm m n env' s').sat (EndW y mt kr P0 H0 cold' H' D) (XW y EE H0), ⟨big, cold, env, sc, r, q⟩, ?_⟩
    rintro n σ' H' ⟨c1, env', s', ⟨own, r1⟩, go⟩
    cases n with
    | zero => exact go.elim
    | succ n =>
      have go' : ((tm y.R env' s').bind fun c s => if c = true then (m y.R env' s).bind fun o s => (match o with
        | .nx env => whGo y.R tm m n env s
        | .ct env => whGo y.R tm m n env s
        | .bk env => .ok (.nx env) s
        | .rt d => .ok (.rt d) s) else .ok (.nx env') s).sat (EndW y mt kr P0 H0 c1 H' D) (XW y EE H0) := go
      refine ⟨_, env', s', r1.full, Res.sat_mono (Res.sat_bind go') (fun b s2 w H2 x2 hs2 => ?_) fun _ _ w => w.mono r1.ext⟩
      obtain ⟨c2, r2, f2, _⟩ := r1.grow x2 hs2
      cases b with
      | false =>
        simp only [Bool.false_eq_true, if_false] at w ⊢
        exact (show EndW y mt kr P0 H0 c1 H' D (.nx env') s2 from w) _ _ _ f2 ⟨_, r2⟩
      | true =>
        simp only [if_true] at w ⊢
        refine ⟨fun σ3 H3 => ∃ cold' env' s', RS y P0 H0 mt cold' env' s' σ3 H3 ∧ (whGo y.R tm m n env' s').sat (EndW y mt kr P0 H0 cold' H3 D) (XW y EE H0), fun σ3 H3 z => ⟨n, Nat.lt_succ_self n, z⟩, ?_⟩
        refine ⟨P0, H0, c2, env', s2, ⟨_, r2⟩, Res.sat_mono (Res.sat_bind w) (fun o s3 w => ?_) fun _ _ w => w⟩
        cases o with
        | nx env3 => exact fun c3 σ3 H3 f4 r5 => ⟨c3, env3, s3, r5, Res.sat_mono w (fun o s w => EndW.fr w (f2.trans f4)) fun _ _ w => w⟩
        | ct env3 => exact fun c3 σ3 H3 f4 r5 => ⟨c3, env3, s3, r5, Res.sat_mono w (fun o s w => EndW.fr w (f2.trans f4)) fun _ _ w => w⟩
        | bk env3 => exact fun c3 σ3 H3 f4 r5 => (show EndW y mt kr P0 H0 c1 H' D (.nx env3) s3 from w) c3 σ3 H3 (f2.trans f4) r5
        | rt d => exact w
end
end Lt

/-! Lt: argument lists whose members are owned; stores. -/
namespace Lt
open PySem PySem.Spec PyProof.Rows L2

inductive OwZ (sa : Addr) (P : Addr → Prop) (H : Hp) : List Nat → List V → List D → List Addr → Prop where
  | nil : OwZ sa P H [] [] [] []
  | cons {k : Nat} {ks : List Nat} {v : V} {vs : List V} {d : D} {ds : List D} {o os : List Addr} : Ow sa P H k v d o → OwZ sa P H ks vs ds os → OwZ sa P H (k :: ks) (v :: vs) (d :: ds) (o ++ os)
theorem OwZ.mono {sa : Addr} {P P' : Addr → Prop} {H H' : Hp} {ks : List Nat} {vs : List V} {ds : List D} {o : List Addr} (h : OwZ sa P H ks vs ds o) (p : ∀ a u, P a → H a = some u → P' a ∧ H' a = some u) (ho : ∀ a u, a ∈ o → H a = some u → H' a = some u)
    (ht : ∀ a xs, H a = some (.tup xs) → H' a = some (.tup xs)) : OwZ sa P' H' ks vs ds o := by
  induction h with
  | nil => exact .nil
  | cons r rs ih => exact .cons (r.mono _ p (fun a u ha => ho a u (by simp [ha])) ht) (ih fun a u ha => ho a u (by simp [ha]))
theorem OwZ.trim {sa : Addr} {P : Addr → Prop} {H : Hp} {ks : List Nat} {vs : List V} {ds : List D} {o : List Addr} (h : OwZ sa P H ks vs ds o) : ∃ o', o'.Sublist o ∧ (∀ a ∈ o', H a ≠ none) ∧ OwZ sa P H ks vs ds o' := by
  induction h with
  | nil => exact ⟨[], .refl _, by simp, .nil⟩
  | cons r rs ih =>
    obtain ⟨o1, a1, a2, a3⟩ := r.trim
    obtain ⟨o2, b1, b2, b3⟩ := ih
    exact ⟨o1 ++ o2, a1.append b1, fun a ha => (List.mem_append.mp ha).elim (a2 a) (b2 a), .cons a3 b3⟩
def rdZ (y : Yx) (EE : XK) (ks : List Nat) (m : LM) : TA := fun σ H Q => ∃ P env s, St0 y P env s σ H ∧ (m y.R env s).sat (fun ds s' => ∀ vs H' o, Ext y H H' → SrcAt y H' s' → (∀ a ∈ o, H a = none) → o.Nodup → OwZ y.sa (fun a => Pn P H a ∧ a ∉ o) H' ks vs ds o → Q vs H') (XW y EE H)
section
variable {y : Yx} {X : Cx} {EE : XK} {e : Expr} {es : List Expr} {me : EM} {ml : LM} {k : Nat} {ks : List Nat}
theorem z_nil : PA X [] (rdZ y EE [] eNil) := PA.imp pa_nil fun σ H Q ⟨P, env, s, st, q⟩ => by
  have q' := (show ∀ vs H' o, Ext y H H' → SrcAt y H' s → (∀ a ∈ o, H a = none) → o.Nodup → OwZ y.sa (fun a => Pn P H a ∧ a ∉ o) H' [] vs [] o → Q vs H' from q)
  exact q' [] H [] Ext.refl st.2.2 (by simp) .nil .nil
theorem z_cons (he : PE X e (rdE y EE k me)) (hr : PA X es (rdZ y EE ks ml)) (hs : notStar e = true) : PA X (e :: es) (rdZ y EE (k :: ks) (eCons me ml)) :=
  PA.imp (pa_cons he hr (star_ns hs)) fun σ H Q ⟨P, env, s, st, q⟩ => by
    have q' : ((me y.R env s).bind fun x s => (ml y.R env s).bind fun xs s => (Res.ok (x :: xs) s : Res (List D))).sat (fun ds s' => ∀ vs H' o, Ext y H H' → SrcAt y H' s' → (∀ a ∈ o, H a = none) → o.Nodup → OwZ y.sa (fun a => Pn P H a ∧ a ∉ o) H' (k :: ks) vs ds o → Q vs H') (XW y EE H) := q
    have pk : Pok y (Pn P H) := st.1.pn st.2.2
    refine ⟨P, env, s, st, Res.sat_mono (Res.sat_bind q') (fun d s1 z v H1 o1 x1 hs1 no1 nd1 w1 => ?_) fun _ _ w => w⟩
    obtain ⟨o1', t1, t2, t3⟩ := w1.trim
    have sub : ∀ a ∈ o1', a ∈ o1 := fun a ha => t1.subset ha
    have re1 : RE y.sa (fun a => P a ∧ H a ≠ none) env σ H1 := st.2.1.mono fun v d r => (rp_dom r).ext (fun a q => st.1 a q.1) st.2.2 x1
    refine ⟨fun a => P a ∧ H a ≠ none, env, s1, ⟨fun a q => st.1 a q.1, re1, hs1⟩, Res.sat_mono (Res.sat_bind z) (fun ds s2 z2 vs H2 o2 x2 hs2 no2 nd2 w2 => ?_) fun _ _ w => w.mono x1⟩
    have z3 := (show ∀ vs H' o, Ext y H H' → SrcAt y H' s2 → (∀ a ∈ o, H a = none) → o.Nodup → OwZ y.sa (fun a => Pn P H a ∧ a ∉ o) H' (k :: ks) vs (d :: ds) o → Q vs H' from z2)
    have no1' : ∀ a ∈ o1', a ≠ y.sa ∧ a ≠ y.ca := fun a ha => pk a (.inr (no1 a (sub a ha)))
    refine z3 (v :: vs) H2 (o1' ++ o2) (x1.trans x2) hs2 ?_ ?_ (.cons (t3.mono k (fun a u q e => ⟨⟨q.1, ?_⟩, x2 a u (pk a q.1).1 (pk a q.1).2 e⟩) (fun a u ha e => x2 a u (no1' a ha).1 (no1' a ha).2 e) fun a xs e => x2.tup hs1 e) (w2.mono (fun a u q e => ⟨⟨?_, ?_⟩, e⟩) (fun _ _ _ e => e) fun _ _ e => e))
    · intro a ha
      rcases List.mem_append.mp ha with ha | ha
      · exact no1 a (sub a ha)
      · exact x1.back hs1 (no2 a ha)
    · exact List.nodup_append.mpr ⟨t1.nodup nd1, nd2, fun a ha b hb e => t2 a ha (e ▸ no2 b hb)⟩
    · intro hm
      rcases List.mem_append.mp hm with hm | hm
      · exact q.2 (sub a hm)
      · rw [no2 a hm] at e; cases e
    · rcases q.1 with q | q
      · exact .inl q.1
      · exact .inr (x1.back hs1 q)
    · intro hm
      rcases List.mem_append.mp hm with hm | hm
      · rcases q.1 with q | q
        · exact q.2 (no1 a (sub a hm))
        · exact t2 a hm q
      · exact q.2 hm
end
section
variable {y : Yx} {P0 cold : Addr → Prop} {H0 H H' : Hp} {mt : List (Nat × Nat)} {own : Nat → List Addr} {env : Env} {s s' : Src} {σ : L2.St}
/-- a new value is held -/
theorem RSo.hold (h : RSo y P0 H0 mt cold own env s σ H) (x : Ext y H H') (hs : SrcAt y H' s') {o : List Addr} (no : ∀ a ∈ o, H a = none) :
    RSo y P0 H0 mt (fun a => Pn cold H a ∧ a ∉ o) own env s' σ H' ∧ Fr cold H (fun a => Pn cold H a ∧ a ∉ o) H' ∧ ∀ a ∈ o, H0 a = none ∧ ¬ (Pn cold H a ∧ a ∉ o) ∧ ∀ j, a ∉ own j := by
  refine ⟨h.to2 x hs (fun a q n => ⟨.inl q, fun z => n (no a z)⟩) (fun a q => ?_) (fun j a ha q => ?_), ⟨fun a q n => ⟨⟨.inl q, fun z => n (no a z)⟩, ?_⟩, fun a xs e => x.tup h.src e⟩, fun a ha => ⟨h.ext.back h.src (no a ha), fun q => q.2 ha, fun j hm => (h.onew j a hm).2.1 (no a ha)⟩⟩
  · rcases q.1 with q | q
    · exact h.cn a q
    · exact .inr (h.ext.back h.src q)
  · rcases q.1 with q | q
    · exact (h.onew j a ha).2.2 q
    · exact (h.onew j a ha).2.1 q
  · cases e : H a with
    | none => exact absurd e n
    | some u => exact x a u (h.ck a q).1 (h.ck a q).2 e
theorem setZ : ∀ {is : List Nat} {vs : List V} {ds : List D} {o : List Addr} {own : Nat → List Addr} {env env' : Env} {σ : L2.St}, RSo y P0 H0 mt cold own env s σ H → OwZ y.sa cold H (is.map (dep mt)) vs ds o → o.Nodup → (∀ a ∈ o, H0 a = none ∧ H a ≠ none ∧ ¬ cold a ∧ ∀ j, a ∉ own j) →
    Lt.setAll is ds env = some env' → RS y P0 H0 mt cold env' s (setV is vs σ) H
  | [], _, _, _, own, env, env', σ, h, .nil, _, _, e => by simp [Lt.setAll] at e; subst e; exact ⟨own, h⟩
  | i :: is, _, _, _, own, env, env', σ, h, .cons (v := v) (vs := vs) (d := d) (ds := ds) (o := o) (os := os) r rs, nd, no, e => by
    have e' : Lt.setAll is ds (env.set i (some d)) = some env' := e
    obtain ⟨n1, n2, n3⟩ := List.nodup_append.mp nd
    have q := h.set (i := i) r n1 fun a ha => let z := no a (by simp [ha]); ⟨z.1, z.2.1, z.2.2.1, fun j _ => z.2.2.2 j⟩
    have q2 := setZ q rs n2 (fun a ha => let z := no a (by simp [ha]); ⟨z.1, z.2.1, z.2.2.1, fun j hm => by
      unfold upo at hm
      split at hm
      · exact n3 a hm a ha rfl
      · exact z.2.2.2 j hm⟩) e'
    exact q2
theorem OwL.of {R : V → D → List Addr → Prop} {sa : Addr} {P : Addr → Prop} (f : ∀ v d, Rp sa P H v d → R v d []) : ∀ {vs : List V} {ds : List D}, RpL sa P H vs ds → OwL R vs ds []
  | _, _, .nil => .nil
  | _, _, .cons r rs => .cons (f _ _ r) (OwL.of f rs)
theorem OwL.setn {R : V → D → List Addr → Prop} {v : V} {d : D} {oe : List Addr} (r : R v d oe) : ∀ {vs : List V} {ds : List D} {o : List Addr} (n : Nat), OwL R vs ds o → ∃ o', OwL R (vs.set n v) (ds.set n d) o' ∧ (∀ a ∈ o', a ∈ o ∨ a ∈ oe) ∧ (o.Nodup → oe.Nodup → (∀ a ∈ o, a ∉ oe) → o'.Nodup)
  | _, _, _, _, .nil => ⟨[], .nil, by simp, fun _ _ _ => .nil⟩
  | _, _, _, 0, .cons (o := o) (os := os) q qs => ⟨oe ++ os, .cons r qs, fun a ha => (List.mem_append.mp ha).elim .inr fun h => .inl (by simp [h]), fun h1 h2 h3 => List.nodup_append.mpr ⟨h2, (List.nodup_append.mp h1).2.1, fun a ha b hb e => h3 b (by simp [hb]) (e ▸ ha)⟩⟩
  | _, _, _, n + 1, .cons (o := o) (os := os) q qs => by
    obtain ⟨o', h1, h2, h3⟩ := OwL.setn r n qs
    refine ⟨o ++ o', .cons q h1, fun a ha => ?_, fun k1 k2 k3 => ?_⟩
    · rcases List.mem_append.mp ha with h | h
      · exact .inl (by simp [h])
      · rcases h2 a h with h | h
        · exact .inl (by simp [h])
        · exact .inr h
    · obtain ⟨m1, m2, m3⟩ := List.nodup_append.mp k1
      refine List.nodup_append.mpr ⟨m1, h3 m2 k2 (fun a ha => k3 a (by simp [ha])), fun a ha b hb e => ?_⟩
      subst e
      rcases h2 a hb with h | h
      · exact m3 a ha a h rfl
      · exact k3 a (by simp [ha]) h
/-- what a name owns changes in one place -/
theorem RSo.put (h : RSo y P0 H0 mt cold own env s σ H) {i : Nat} {a : Addr} {v : V} {d' : D} {u u' : HO} {o' : List Addr} (ha : a ∈ own i) (hu : H a = some u) (ht : ∀ xs, u ≠ .tup xs) (hσ : σ[i]? = some (some v)) (r : Ow y.sa cold (upd H a u') (dep mt i) v d' o') (nd : o'.Nodup)
    (no : ∀ b ∈ o', b ∈ own i ∨ (H0 b = none ∧ H b ≠ none ∧ ¬ cold b ∧ ∀ j, b ∉ own j)) : RS y P0 H0 mt cold (env.set i (some d')) s σ (upd H a u') ∧ Fr cold H cold (upd H a u') := by
  have na := h.onew i a ha
  have ca : ∀ b, cold b → b ≠ a := fun b q e => na.2.2 (e ▸ q)
  have tk : ∀ b xs, H b = some (.tup xs) → upd H a u' b = some (.tup xs) := fun b xs e => by
    rw [upd_ne (by rintro rfl; rw [hu] at e; cases e; exact ht _ rfl)]; exact e
  refine ⟨⟨upo own i o', ⟨?_, ?_, h.src0, h.pok, h.cn, by rw [List.length_set]; exact h.len, fun j e hj => ?_, fun j b hb => ?_, fun j => ?_, fun j k b hjk hb => ?_⟩⟩, fun b q n => ⟨q, upd_ne (ca b q)⟩, tk⟩
  · intro b o n1 n2 e
    rw [upd_ne (ne_of_none e na.1)]
    exact h.ext b o n1 n2 e
  · have n := h.ok' ha
    exact ⟨by rw [upd_ne (Ne.symm n.1)]; exact h.src.1, by rw [upd_ne (Ne.symm n.2)]; exact h.src.2⟩
  · by_cases hij : i = j
    · subst hij
      have hlt : i < env.length := by
        rcases Nat.lt_or_ge i env.length with q | q
        · exact q
        · rw [List.getElem?_eq_none (by rw [List.length_set]; exact q)] at hj; cases hj
      rw [List.getElem?_set_self hlt] at hj
      cases hj
      exact ⟨v, hσ, by simpa [upo] using r⟩
    · rw [List.getElem?_set_ne hij] at hj
      obtain ⟨w, h1, h2⟩ := h.val j e hj
      refine ⟨w, h1, ?_⟩
      have : upo own i o' j = own j := by simp [upo, Ne.symm hij]
      rw [this]
      exact h2.mono _ (fun b x q e => ⟨q, by rw [upd_ne (ca b q)]; exact e⟩) (fun b x hb e => by
        have nb : b ≠ a := by rintro rfl; exact h.dis j i _ (Ne.symm hij) hb ha
        rw [upd_ne nb]; exact e) tk
  · have new : ∀ {b : Addr}, H b ≠ none → upd H a u' b ≠ none := fun {b} n => by
      by_cases e : b = a
      · subst e; rw [upd_same]; simp
      · rw [upd_ne e]; exact n
    unfold upo at hb
    split at hb
    · rcases no b hb with z | z
      · have := h.onew i b z
        exact ⟨this.1, new this.2.1, this.2.2⟩
      · exact ⟨z.1, new z.2.1, z.2.2.1⟩
    · have := h.onew j b hb
      exact ⟨this.1, new this.2.1, this.2.2⟩
  · unfold upo
    split
    · exact nd
    · exact h.nd j
  · unfold upo at hb ⊢
    split at hb <;> split
    · rename_i e1 e2; exact absurd (e1.trans e2.symm) hjk
    · rename_i e1 e2
      rcases no b hb with z | z
      · exact h.dis i k b (Ne.symm e2) z
      · exact z.2.2.2 k
    · rename_i e1 e2
      intro hm
      rcases no b hm with z | z
      · exact h.dis j i b e1 hb z
      · exact z.2.2.2 j hb
    · exact h.dis j k b hjk hb
end
end Lt

/-! Lt: stores. -/
namespace Lt
open PySem PySem.Spec PyProof.Rows L2
theorem get_list {X : Cx} : PGet X (rIxL X.K) := by
  intro pins s σ H x y v u Q I rx ry h
  obtain ⟨p, xs, i, z, rfl, rfl, hq, he, q⟩ := h
  cases rx
  obtain ⟨t, rfl⟩ := ry
  obtain ⟨its, r, pl, hz⟩ := I.list hq
  obtain ⟨j, h1, h2, h3, h4, h5⟩ := atI_get he
  obtain ⟨w, ew, rw'⟩ := r.get h2
  have hl := r.length
  have hn := line63
  have fin : EP X pins σ Q w s := ⟨z, H, I, rw', q⟩
  rcases (show i < 0 ∨ 0 ≤ i by omega) with h0 | h0
  · have hj : (i + (its.toArray.size : Int)).toNat = j := by
      rw [seqIndex_neg h0 h4] at h1
      rw [List.size_toArray, ← hl]
      exact Option.some.inj h1
    exact wpAny_getItem_list_neg pl.isList h0 (by rw [List.size_toArray] <;> omega) (by omega) (by rw [hj]; simpa using ew) fin
  · have hj : i.toNat = j := by
      rw [seqIndex_of h0 h5] at h1
      exact Option.some.inj h1
    exact wpAny_getItem_list pl.isList h0 (by omega) (by rw [hj]; simpa using ew) fin
def rPut : TSet := fun o i v H Q => rSetL o i v H Q ∨ ∃ a H', o = .ref a ∧ DPut H a i v H' ∧ Q H'
theorem set_put {X : Cx} (hu : X.A.units + 1 < cLine) : PSet X rPut := fun pins s σ H o i v ov iv u Q I ro ri rv h => by
  rcases h with h | ⟨a, H', rfl, g, q⟩
  · exact set_list pins s σ H o i v ov iv u Q I ro ri rv h
  · cases ro
    exact d_setItem hu I g ri rv fun s' I' => ⟨H', I', q⟩
theorem sw_sub {value o i : Expr} {pos : Pos} {l : Nat} {env : PySem.Env} : swapsWith value (some (.Subscript o i pos)) l env = pure false := by
  cases value <;> rfl
theorem sw_sub1 {value o i : Expr} {pos : Pos} {l : Nat} {env : PySem.Env} : swapsWithSole [.Subscript o i pos] value l env = pure false := by
  cases value <;> rfl
theorem atD_sat {d j x : D} {n : Nat} (h : atD d j = some (n, x)) : ∃ l i, d = .lst l ∧ j = .int i ∧ ixN l.length i = some n ∧ l[n]? = some x := by
  unfold atD at h
  split at h
  · rename_i l i
    obtain ⟨m, h1, h2⟩ := Option.bind_eq_some_iff.mp h
    obtain ⟨z, h3, h4⟩ := Option.map_eq_some_iff.mp h2
    cases h4
    exact ⟨l, i, rfl, rfl, h1, h3⟩
  · cases h
theorem OwL.at {R : V → D → List Addr → Prop} : ∀ {vs : List V} {ds : List D} {o : List Addr} {n : Nat} {d : D}, OwL R vs ds o → ds[n]? = some d → ∃ w o1 o2 o3, vs[n]? = some w ∧ o = o1 ++ o2 ++ o3 ∧ R w d o2 ∧
    ∀ (R' : V → D → List Addr → Prop) (d' : D) (o2' : List Addr), (∀ v d o', (∀ a ∈ o', a ∈ o1 ∨ a ∈ o3) → R v d o' → R' v d o') → R' w d' o2' → OwL R' vs (ds.set n d') (o1 ++ o2' ++ o3)
  | _, _, _, n, d, .nil, e => by simp at e
  | _, _, _, 0, d, .cons (v := v) (o := o) (os := os) q qs, e => by
    simp at e; subst e
    exact ⟨v, [], o, os, rfl, by simp, q, fun R' d' o2' f r => .cons r (qs.imp fun v d o' _ ho q => f v d o' (fun a ha => .inr (ho a ha)) q)⟩
  | _, _, _, n + 1, d, .cons (v := v) (o := o) (os := os) q qs, e => by
    obtain ⟨w, o1, o2, o3, h1, h2, h3, h4⟩ := OwL.at qs (n := n) (d := d) (by simpa using e)
    refine ⟨w, o ++ o1, o2, o3, by simpa using h1, by rw [h2]; simp, h3, fun R' d' o2' f r => ?_⟩
    have z := OwL.cons (f _ _ _ (fun a ha => .inl (by simp [ha])) q) (h4 R' d' o2' (fun v d o' ho q => f v d o' (fun a ha => (ho a ha).imp (fun z => by simp [z]) id) q) r)
    simpa [List.append_assoc] using z
theorem sub_asg {ix o : Expr} {env : PySem.Env} {p2 : Pos} (h : notSlice ix = true) : ∀ v, assign (.Subscript o ix p2) env v = (do
      let ov ← holding [v] (eval o env)
      let iv ← holding [v, ov] (eval ix env)
      standAt p2
      holding [v, ov, iv] (setItem ov iv v)
      release [v, ov, iv] []) := by
  intro v
  cases ix <;> first | rfl | cases h
theorem aug_ns {ix : Expr} (h : notSlice ix = true) : ∀ ov iv new, augStore ix ov iv new = (do holding [new, ov, iv] (setItem ov iv new); release [new, ov, iv] []; pure .next) := by
  intro ov iv new
  cases ix <;> first | rfl | cases h
section
variable {y : Yx} {X : Cx} {EE : XK} {mt : List (Nat × Nat)} {kr k i : Nat} {me mj ma mb : EM} {e ix a b : Expr} {x : Str} {px pos pos' p2 : Pos}
theorem ok_k {d : D} {k : Nat} (h : (if d.immK k = true then (1 : Nat) else 0) = 1) : d.immK k = true := by
  split at h
  · assumption
  · cases h
/-- what was held while more was come to -/
theorem ow_ext {k : Nat} {P : Addr → Prop} {H H1 H2 : Hp} {s1 s : Src} {o : List Addr} {v : V} {d : D} (st : SrcAt y H s) (pk : Pok y P) (x2 : Ext y H1 H2) (hs1 : SrcAt y H1 s1) (no : ∀ a ∈ o, H a = none) (w : Ow y.sa (fun a => Pn P H a ∧ a ∉ o) H1 k v d o) :
    Ow y.sa (fun a => Pn P H a ∧ a ∉ o) H2 k v d o := by
  have pn := pk.pn st
  exact w.mono k (fun a u q e => ⟨q, x2 a u (pn a q.1).1 (pn a q.1).2 e⟩) (fun a u ha e => x2 a u (pn a (.inr (no a ha))).1 (pn a (.inr (no a ha))).2 e) fun a xs e => x2.tup hs1 e
theorem s_put (hu : X.A.units + 1 < cLine) (hN : X.N[i]? = some x) (hv : Vis X.env.scope x) (hd : (x == ("__debug__" : Str)) = false) (hcd : (x == ("__classdict__" : Str)) = false) (hk : dep mt i = k + 1)
    (he : PE X e (rdE y EE k me)) (hj : PE X ix (rdE y EE 0 mj)) (hsl : notSlice ix = true) : PS X (.Assign [.Subscript (.Name x px) ix p2] e pos) (rdS y EE mt kr (sPut k i mj me)) :=
  PS.imp (ps_asg (pos := pos) he (pg_sub (pe_var hN hv hd hcd) hj (set_put hu) (sub_asg hsl)) sw_sub1 (by cases e <;> rfl) rfl) fun D σ H ⟨P0, H0, cold, env, sc, ⟨own, r⟩, q⟩ => by
    have q' : ((me y.R env sc).bind fun d s => match env[i]? with
      | some (some x) => (mj y.R env s).bind fun j s => if d.immK k then (match dPut k x j d with
        | some x => (.ok (.nx (env.set i (some x))) s : Res Out)
        | none => .no) else .no
      | _ => .no).sat (EndW y mt kr P0 H0 cold H D) (XW y EE H0) := q
    refine ⟨_, env, sc, r.full, Res.sat_mono (Res.sat_bind q') (fun d s1 z v H1 o x1 hs1 no nd w => ?_) fun _ _ z => z.mono r.ext⟩
    have r1 := r.to x1 hs1
    split at z
    · rename_i xd hx
      obtain ⟨vx, hσ, hwx0⟩ := r1.val i xd hx
      clear hwx0
      refine ⟨vx, hσ, full cold own, env, s1, r1.full, Res.sat_mono (Res.sat_bind z) (fun jd s2 z2 vj H2 oj x2 hs2 _ _ wj => ?_) fun _ _ z => z.mono r1.ext⟩
      split at z2
      · rename_i him
        have w2 := ow_ext r.src r.full.1 x2 hs1 no w
        obtain ⟨o', t1, t2, t3⟩ := (Ow.immK (P' := fun a => Pn cold H a ∧ a ∉ o) k k w2 (Nat.le_refl _) him).trim
        have sub : ∀ a ∈ o', a ∈ o := fun a ha => t1.subset ha
        have t4 : Ow y.sa (fun a => Pn cold H a ∧ a ∉ o') H2 k v d o' := t3.mono k (fun a u q e => ⟨⟨q.1, fun z => q.2 (sub a z)⟩, e⟩) (fun _ _ _ e => e) fun _ _ e => e
        obtain ⟨r2, f2, h2⟩ := r.hold (x1.trans x2) hs2 (o := o') fun a ha => no a (sub a ha)
        obtain ⟨vx', hσ', wx⟩ := r2.val i xd hx
        rw [hσ] at hσ'
        cases hσ'
        rw [hk] at wx
        have no' : ∀ b ∈ o', H0 b = none ∧ H2 b ≠ none ∧ ¬ (Pn cold H b ∧ b ∉ o') ∧ ∀ j, b ∉ own j := fun b hb => ⟨(h2 b hb).1, t2 b hb, (h2 b hb).2.1, (h2 b hb).2.2⟩
        have ondx : (own i).Nodup := r2.nd i
        split at z2
        · rename_i xd' hput
          have fin : ∀ {a : Addr} {u u' : HO} {oo : List Addr}, vx = .ref a → a ∈ own i → H2 a = some u → (∀ xs, u ≠ .tup xs) → Ow y.sa (fun a => Pn cold H a ∧ a ∉ o') (upd H2 a u') (k + 1) vx xd' oo → oo.Nodup → (∀ b ∈ oo, b ∈ own i ∨ b ∈ o') → D.nx σ (upd H2 a u') := by
            intro a u u' oo hva hao hu0 hu1 how hnd hoo
            obtain ⟨r3, f3⟩ := r2.put (d' := xd') (o' := oo) hao hu0 hu1 hσ (by rw [hk]; exact how) hnd fun b hb => (hoo b hb).imp id fun hb => no' b hb
            exact (show EndW y mt kr P0 H0 cold H D (.nx _) s2 from z2) _ _ _ (f2.trans f3) r3
          cases xd <;> try (simp [dPut] at hput; done)
          case lst l =>
            obtain ⟨a, vs, os, rfl, ea, owl, eo⟩ := wx
            simp only [dPut] at hput
            split at hput
            · rename_i ia
              obtain ⟨n, hn, rfl⟩ := Option.map_eq_some_iff.mp hput
              cases wj
              refine .inl ⟨a, vs, ia, n, rfl, rfl, ea, by rw [OwL.length owl]; exact hn, ?_⟩
              rw [eo] at ondx
              obtain ⟨n1, n2⟩ := List.nodup_cons.mp ondx
              have hao : a ∈ own i := by rw [eo]; simp
              have ca : ∀ b, (Pn cold H b ∧ b ∉ o') → b ≠ a := fun b q e => (r2.onew i a hao).2.2 (e ▸ q)
              have up : ∀ {w : V} {d : Lt.D} {oo : List Addr}, (∀ b ∈ oo, b ≠ a) → Ow y.sa (fun a => Pn cold H a ∧ a ∉ o') H2 k w d oo → Ow y.sa (fun a => Pn cold H a ∧ a ∉ o') (upd H2 a (.lst (vs.set n v))) k w d oo := fun {w d oo} hoo q =>
                q.mono k (fun b u z e => ⟨z, by rw [upd_ne (ca b z)]; exact e⟩) (fun b u hb e => by rw [upd_ne (hoo b hb)]; exact e) fun b xs e => by rw [upd_ne (by rintro rfl; rw [ea] at e; cases e)]; exact e
              have ho'a : ∀ b ∈ o', b ≠ a := fun b hb e => (h2 b hb).2.2 i (e ▸ hao)
              obtain ⟨oo, g1, g2, g3⟩ := OwL.setn (up ho'a t4) n (owl.imp fun w d oo _ hsub q => up (fun b hb e => n1 (e ▸ hsub b hb)) q)
              refine fin (oo := a :: oo) rfl hao ea (by intro xs e; cases e) ⟨a, _, oo, rfl, upd_same, g1, rfl⟩ (List.nodup_cons.mpr ⟨fun hm => ?_, g3 n2 (t1.nodup nd) fun b hb hb' => (h2 b hb').2.2 i (by rw [eo]; simp [hb])⟩) fun b hb => ?_
              · rcases g2 a hm with z | z
                · exact n1 z
                · exact ho'a a z rfl
              · rcases List.mem_cons.mp hb with rfl | hb
                · exact .inl hao
                · exact (g2 b hb).imp (fun z => by rw [eo]; simp [z]) id
            · cases hput
          case dct t l =>
            simp only [dPut] at hput
            split at hput
            · rename_i hc
              simp at hput
              subst hput
              simp only [Bool.and_eq_true, beq_iff_eq, decide_eq_true_eq] at hc
              obtain ⟨⟨rfl, hkey⟩, hlen⟩ := hc
              have hlen' : l.length < sizeLine := Nat.lt_of_lt_of_le hlen (by rw [sizeLine_eq]; decide)
              have wj' : Rp y.sa (Pn (full cold own) H1) H2 vj jd := Rp.imp wj fun a q => q.1
              rcases wx with ⟨a, kvs, os, rfl, rfl, ea, ek, owl, eo⟩ | ⟨a, kvs, os, rfl, rfl, ea, ek, owl, eo⟩
              · have hao : a ∈ own i := by rw [eo]; simp
                have ca : ∀ b, (Pn cold H b ∧ b ∉ o') → b ≠ a := fun b q e => (r2.onew i a hao).2.2 (e ▸ q)
                obtain ⟨kk, rfl, rfl⟩ := keyA_of wj' (by simpa [Lt.D.keyOf] using hkey)
                have hl2 : kvs.length = l.length := by have := congrArg List.length ek; simpa using this.symm
                have rl : RpL y.sa (fun a => Pn cold H a ∧ a ∉ o') H2 (kvs.map (·.2)) (l.map (·.2)) := owl.toL fun v d o' _ _ q => q
                obtain ⟨k1, k2⟩ := put_rel kD kD_eq t4 ek rl kk
                refine .inr ⟨a, _, rfl, DPut.k ea (by rw [hl2]; exact hlen'), ?_⟩
                have k3 := k2.mono (H' := upd H2 a (.dK (putK kvs kk v))) (P' := fun a => Pn cold H a ∧ a ∉ o') (fun b u z e => ⟨z, by rw [upd_ne (ca b z)]; exact e⟩) fun b xs e => by rw [upd_ne (by rintro rfl; rw [ea] at e; cases e)]; exact e
                exact fin (oo := [a]) rfl hao ea (by intro xs e; cases e) (.inl ⟨a, _, [], rfl, rfl, upd_same, k1, OwL.of (fun _ _ q => q) k3, rfl⟩) (by simp) fun b hb => .inl (by simp at hb; rw [hb]; exact hao)
              · have hao : a ∈ own i := by rw [eo]; simp
                have ca : ∀ b, (Pn cold H b ∧ b ∉ o') → b ≠ a := fun b q e => (r2.onew i a hao).2.2 (e ▸ q)
                obtain ⟨kk, bb, rfl, hbb, rfl⟩ := keyT_of wj' (by simpa [Lt.D.keyOf] using hkey)
                have hl2 : kvs.length = l.length := by have := congrArg List.length ek; simpa using this.symm
                have rl : RpL y.sa (fun a => Pn cold H a ∧ a ∉ o') H2 (kvs.map (·.2)) (l.map (·.2)) := owl.toL fun v d o' _ _ q => q
                obtain ⟨k1, k2⟩ := put_rel (fun q : List Key => Lt.D.tup (q.map kD)) kT_eq t4 ek rl kk
                refine .inr ⟨a, _, rfl, DPut.t ea hbb (by rw [hl2]; exact hlen'), ?_⟩
                have k3 := k2.mono (H' := upd H2 a (.dT (putK kvs kk v))) (P' := fun a => Pn cold H a ∧ a ∉ o') (fun b u z e => ⟨z, by rw [upd_ne (ca b z)]; exact e⟩) fun b xs e => by rw [upd_ne (by rintro rfl; rw [ea] at e; cases e)]; exact e
                exact fin (oo := [a]) rfl hao ea (by intro xs e; cases e) (.inr ⟨a, _, [], rfl, rfl, upd_same, k1, OwL.of (fun _ _ q => q) k3, rfl⟩) (by simp) fun b hb => .inl (by simp at hb; rw [hb]; exact hao)
            · cases hput
        · exact z2.elim
      · exact z2.elim
    · exact z.elim
theorem app_few {e : Expr} {cpos : Pos} {env : PySem.Env} (hs : notStar e = true) : ((backTo cpos (starEach [e] env)).all (fun x => !x.1) && (backToKw cpos (keywordEach [] env)).all (fun x => x.1.isSome)
      && decide (([e] : List Expr).length + ([] : List Keyword).length + (if ([] : List Keyword).isEmpty then 0 else 1) < 30)) = true := by
  rw [star_ns hs]; rfl
theorem s_app {apos cpos : Pos} (hN : X.N[i]? = some x) (hv : Vis X.env.scope x) (hd : (x == ("__debug__" : Str)) = false) (hcd : (x == ("__classdict__" : Str)) = false) (hk : dep mt i = k + 1)
    (he : PE X e (rdE y EE k me)) (hs : notStar e = true) (hb : attributeBase (.Name x px) "append" X.env (eval (.Name x px) X.env) = eval (.Name x px) X.env) (hline : (apos.endLine == cpos.line) = true) :
    PS X (.Expr (.Call (.Attribute (.Name x px) "append" apos) [e] [] cpos) pos) (rdS y EE mt kr (sApp k i me)) :=
  PS.imp (ps_expr (pe_bm (T := "list") PySem.F.plainAttrs_list PySem.F.slot_list_append PySem.F.type_list_append (fun pins s σ H x xs v us Q I rx rv h => mt_append pins s σ H x xs v us Q I rx rv h) (pe_var hN hv hd hcd)
      (pa_cons he pa_nil (star_ns hs)) hb (app_few hs) hline (star_ns hs) (by rfl)) (by rfl)) fun D σ H ⟨P0, H0, cold, env, sc, ⟨own, r⟩, q⟩ => by
    have q' : (match lstAt env i with
      | some l => (me y.R env sc).bind fun d s => if d.immK k && decide (l.length < big) then (.ok (.nx (env.set i (some (.lst (l ++ [d]))))) s : Res Out) else .no
      | none => .no).sat (EndW y mt kr P0 H0 cold H D) (XW y EE H0) := q
    cases hl : lstAt env i with
    | none => rw [hl] at q'; exact q'.elim
    | some l =>
      rw [hl] at q'
      have hx : env[i]? = some (some (.lst l)) := by
        unfold lstAt at hl
        split at hl
        · rename_i e; cases hl; exact e
        · cases hl
      obtain ⟨vx, hσ, wx0⟩ := r.val i _ hx
      rw [hk] at wx0
      obtain ⟨a, vs0, os0, rfl, ea0, _, _⟩ := wx0
      refine ⟨_, hσ, .inl ⟨rfl, vs0, SqL.of ea0⟩, full cold own, env, sc, r.full, Res.sat_mono (Res.sat_bind q') (fun d s1 z v H1 o x1 hs1 no nd w => ?_) fun _ _ z => z.mono r.ext⟩
      split at z
      · rename_i hc
        obtain ⟨him, hlen⟩ := Bool.and_eq_true_iff.mp hc
        have hlen' : l.length < sizeLine := Nat.lt_of_lt_of_le (of_decide_eq_true hlen) (by rw [sizeLine_eq]; decide)
        obtain ⟨o', t1, t2, t3⟩ := (Ow.immK (P' := fun a => Pn cold H a ∧ a ∉ o) k k w (Nat.le_refl _) him).trim
        have sub : ∀ a ∈ o', a ∈ o := fun a ha => t1.subset ha
        have t4 : Ow y.sa (fun a => Pn cold H a ∧ a ∉ o') H1 k v d o' := t3.mono k (fun a u q e => ⟨⟨q.1, fun z => q.2 (sub a z)⟩, e⟩) (fun _ _ _ e => e) fun _ _ e => e
        obtain ⟨r2, f2, h2⟩ := r.hold x1 hs1 (o := o') fun a ha => no a (sub a ha)
        obtain ⟨vx', hσ', wx⟩ := r2.val i _ hx
        rw [hσ] at hσ'
        cases hσ'
        rw [hk] at wx
        obtain ⟨a', vs, os, ea', ea, owl, eo⟩ := wx
        cases ea'
        have hao : a ∈ own i := by rw [eo]; simp
        have ondx : (own i).Nodup := r2.nd i
        rw [eo] at ondx
        obtain ⟨n1, n2⟩ := List.nodup_cons.mp ondx
        have ca : ∀ b, (Pn cold H b ∧ b ∉ o') → b ≠ a := fun b q e => (r2.onew i a hao).2.2 (e ▸ q)
        have up : ∀ {w : V} {d : Lt.D} {oo : List Addr}, (∀ b ∈ oo, b ≠ a) → Ow y.sa (fun a => Pn cold H a ∧ a ∉ o') H1 k w d oo → Ow y.sa (fun a => Pn cold H a ∧ a ∉ o') (upd H1 a (.lst (vs ++ [v]))) k w d oo := fun {w d oo} hoo q =>
          q.mono k (fun b u z e => ⟨z, by rw [upd_ne (ca b z)]; exact e⟩) (fun b u hb e => by rw [upd_ne (hoo b hb)]; exact e) fun b xs e => by rw [upd_ne (by rintro rfl; rw [ea] at e; cases e)]; exact e
        have ho'a : ∀ b ∈ o', b ≠ a := fun b hb e => (h2 b hb).2.2 i (e ▸ hao)
        have g1 := OwL.snoc (owl.imp fun w d oo _ hsub q => up (fun b hb e => n1 (e ▸ hsub b hb)) q) (up ho'a t4)
        refine ⟨a, vs, v, rfl, rfl, ea, by rw [OwL.length owl]; exact hlen', ?_⟩
        obtain ⟨r3, f3⟩ := r2.put (u' := .lst (vs ++ [v])) (d' := .lst (l ++ [d])) (o' := a :: (os ++ o')) hao ea (by intro xs e; cases e) hσ (by rw [hk]; exact ⟨a, _, _, rfl, upd_same, g1, rfl⟩)
          (List.nodup_cons.mpr ⟨fun hm => (List.mem_append.mp hm).elim n1 fun z => ho'a a z rfl, List.nodup_append.mpr ⟨n2, t1.nodup nd, fun b hb c hc e => (h2 c hc).2.2 i (by rw [eo]; subst e; simp [hb])⟩⟩) fun b hb => by
            rcases List.mem_cons.mp hb with rfl | hb
            · exact .inl hao
            · rcases List.mem_append.mp hb with hb | hb
              · exact .inl (by rw [eo]; simp [hb])
              · exact .inr ⟨(h2 b hb).1, t2 b hb, (h2 b hb).2.1, (h2 b hb).2.2⟩
        exact (show EndW y mt kr P0 H0 cold H D (.nx _) s1 from z) _ _ _ (f2.trans f3) r3
      · exact z.elim
/-! ints in lists -/
def ipD (op : Operator) : TIp := fun x z H Q => ∃ i j w, x = .int i ∧ z = .int j ∧ iAug op i j = some w ∧ Q (.int w) H
theorem ip_ok {op : Operator} : PIp X op (ipD op) := by
  intro pins s σ H x z v u Q I r1 r2 ⟨i, j, w, e1, e2, e3, q⟩
  cases op <;> try (simp [iAug] at e3; done)
  case Add =>
    simp [iAug] at e3; subst e3
    exact ip_add pins s σ H x z v u Q I r1 r2 ⟨i, j, e1, e2, q⟩
  case Sub =>
    simp [iAug] at e3; subst e3
    exact ip_sub pins s σ H x z v u Q I r1 r2 ⟨i, j, e1, e2, q⟩
theorem ints1_of {d : Lt.D} {i : Int} (h : ints1 d = some i) : d = .int i := by
  cases d <;> simp [ints1] at h
  subst h; rfl
theorem s_augI {op : Operator} (hNd : X.N.Nodup) (hN : X.N[i]? = some x) (hx : Loc X.env.scope x) (hf : X.fn x = true ∨ X.env.scope.names.lookup x = some .local) (hk : dep mt i = 0) (he : PE X e (rdE y EE 0 me)) :
    PS X (.AugAssign (.Name x px) op e pos) (rdS y EE mt kr (sAugI op i me)) :=
  PS.imp (ps_aug hNd hN hx he (ip_ok (op := op)) hf) fun D σ H ⟨P0, H0, cold, env, sc, ⟨own, r⟩, q⟩ => by
    have q' : (match env[i]? with
      | some (some x) => (me y.R env sc).bind fun e s => (ofO ((ints1 x).bind fun z => (ints1 e).bind fun e => iAug op z e) s).bind fun w s => (.ok (.nx (env.set i (some (.int w)))) s : Res Out)
      | _ => .no).sat (EndW y mt kr P0 H0 cold H D) (XW y EE H0) := q
    split at q'
    · rename_i xd hx
      obtain ⟨vx, hσ, wx⟩ := r.val i _ hx
      refine ⟨vx, hσ, _, env, sc, r.full, Res.sat_mono (Res.sat_bind q') (fun d s1 z v H1 o x1 hs1 no nd w => ?_) fun _ _ z => z.mono r.ext⟩
      obtain ⟨w', hw, z'⟩ := ofO_sat (Res.sat_bind z)
      obtain ⟨i1, h1, hw⟩ := Option.bind_eq_some_iff.mp hw
      obtain ⟨i2, h2, hw⟩ := Option.bind_eq_some_iff.mp hw
      have e1 := ints1_of h1
      have e2 := ints1_of h2
      subst e1 e2
      rw [hk] at wx
      cases wx
      cases w
      refine ⟨i1, i2, w', rfl, rfl, hw, ?_⟩
      obtain ⟨c2, r2, f2⟩ := r.step (i := i) (v := .int w') (d := .int w') (o := []) x1 hs1 (by simp) .nil (by rw [hk]; exact .int w')
      exact (show EndW y mt kr P0 H0 cold H D (.nx _) s1 from z') _ _ _ f2 r2
    · exact q'.elim
end
end Lt

/-! Lt: numbers in lists, several names at once. -/
namespace Lt
open PySem PySem.Spec PyProof.Rows L2
section
variable {y : Yx} {X : Cx} {EE : XK} {mt : List (Nat × Nat)} {kr k i : Nat} {me mj ma mb : EM} {e ix a b : Expr} {x : Str} {px pos pos' p2 p3 : Pos}
theorem at_eq {α β : Type} {vs : List α} {l : List β} {i : Int} {n : Nat} {v : α} (hl : vs.length = l.length) (h : ixN l.length i = some n) (e : vs[n]? = some v) : atI vs i = some v := by
  unfold atI
  rw [hl, h]
  exact e
theorem s_aug1 {op : Operator} (hN : X.N[i]? = some x) (hv : Vis X.env.scope x) (hd : (x == ("__debug__" : Str)) = false) (hcd : (x == ("__classdict__" : Str)) = false) (hk : dep mt i = 1)
    (hb : PE X b (rdE y EE 0 mb)) (hsb : notSlice b = true) (he : PE X e (rdE y EE 0 me)) : PS X (.AugAssign (.Subscript (.Name x px) b p2) op e pos) (rdS y EE mt kr (sAug1 op i mb me)) :=
  PS.imp (ps_augS (pe_var hN hv hd hcd) hb get_list he (ip_ok (op := op)) set_list (aug_ns hsb)) fun D σ H ⟨P0, H0, cold, env, sc, ⟨own, r⟩, q⟩ => by
    have q' : (match env[i]? with
      | some (some x) => (mb y.R env sc).bind fun b s => (ofO (atD x b) s).bind fun m s => (me y.R env s).bind fun e s =>
        (ofO ((ints1 m.2).bind fun z => (ints1 e).bind fun e => iAug op z e) s).bind fun w s => (.ok (.nx (env.set i (some (setD x m.1 (.int w))))) s : Res Out)
      | _ => .no).sat (EndW y mt kr P0 H0 cold H D) (XW y EE H0) := q
    split at q'
    · rename_i xd hx
      obtain ⟨vx, hσ, wx0⟩ := r.val i _ hx
      clear wx0
      refine ⟨vx, hσ, _, env, sc, r.full, Res.sat_mono (Res.sat_bind q') (fun bd s1 z1 vb H1 o1 x1 hs1 _ _ w1 => ?_) fun _ _ z => z.mono r.ext⟩
      obtain ⟨m, hm, z2⟩ := ofO_sat (Res.sat_bind z1)
      obtain ⟨n, md⟩ := m
      obtain ⟨l, bi, rfl, rfl, hn, hg⟩ := atD_sat hm
      cases w1
      have r1 := r.to x1 hs1
      obtain ⟨vx', hσ', wx⟩ := r1.val i _ hx
      rw [hσ] at hσ'; cases hσ'
      rw [hk] at wx
      obtain ⟨p, vs, os, rfl, ep, owl, eo⟩ := wx
      obtain ⟨w, oo1, oo2, oo3, hw, _, rw', _⟩ := OwL.at owl hg
      refine ⟨p, vs, bi, w, rfl, rfl, SqL.of ep, at_eq (OwL.length owl) hn hw, ?_⟩
      refine ⟨_, env, s1, r1.full, Res.sat_mono (Res.sat_bind z2) (fun ed s2 z3 ve H2 o2 x2 hs2 _ _ w2 => ?_) fun _ _ z => z.mono r1.ext⟩
      obtain ⟨w', hw', z4⟩ := ofO_sat (Res.sat_bind z3)
      obtain ⟨i1, h1, hw'⟩ := Option.bind_eq_some_iff.mp hw'
      obtain ⟨i2, h2, hw'⟩ := Option.bind_eq_some_iff.mp hw'
      have e1 := ints1_of h1
      have e2 := ints1_of h2
      subst e1 e2
      cases rw'
      cases w2
      obtain ⟨c2, r2, f2, _⟩ := r.grow (x1.trans x2) hs2
      obtain ⟨vx', hσ', wx⟩ := r2.val i _ hx
      rw [hσ] at hσ'; cases hσ'
      rw [hk] at wx
      obtain ⟨p', vs', os', ep', ep2, owl', eo'⟩ := wx
      cases ep'
      have hpo : p ∈ own i := by rw [eo']; simp
      have ca : ∀ b, c2 b → b ≠ p := fun b q e => (r2.onew i p hpo).2.2 (e ▸ q)
      refine ⟨i1, i2, w', rfl, rfl, hw', p, vs', bi, n, rfl, rfl, ep2, by rw [OwL.length owl']; exact hn, ?_⟩
      have rl : RpL y.sa c2 H2 vs' l := owl'.toL fun v d o' _ _ q => q
      have rl2 := (rl.set n (.int w')).mono (H' := upd H2 p (.lst (vs'.set n (.int w')))) (P' := c2) (fun b u z e => ⟨z, by rw [upd_ne (ca b z)]; exact e⟩) fun b xs e => by rw [upd_ne (by rintro rfl; rw [ep2] at e; cases e)]; exact e
      obtain ⟨r3, f3⟩ := r2.put (u' := .lst (vs'.set n (.int w'))) (d' := .lst (l.set n (.int w'))) (o' := [p]) hpo ep2 (by intro xs e; cases e) hσ (by rw [hk]; exact ⟨p, _, [], rfl, upd_same, OwL.of (fun _ _ q => q) rl2, rfl⟩) (by simp) fun b hb => .inl (by simp at hb; rw [hb]; exact hpo)
      exact (show EndW y mt kr P0 H0 cold H D (.nx _) s2 from z4) _ _ _ (f2.trans f3) r3
    · exact q'.elim
theorem s_aug2 {op : Operator} (hN : X.N[i]? = some x) (hv : Vis X.env.scope x) (hd : (x == ("__debug__" : Str)) = false) (hcd : (x == ("__classdict__" : Str)) = false) (hk : dep mt i = 2)
    (ha : PE X a (rdE y EE 0 ma)) (hsl : notSlice a = true) (hb : PE X b (rdE y EE 0 mb)) (hsb : notSlice b = true) (he : PE X e (rdE y EE 0 me)) : PS X (.AugAssign (.Subscript (.Subscript (.Name x px) a p3) b p2) op e pos) (rdS y EE mt kr (sAug2 op i ma mb me)) :=
  PS.imp (ps_augS (pe_ix ix_list (pe_var hN hv hd hcd) ha (plain_ix hsl)) hb get_list he (ip_ok (op := op)) set_list (aug_ns hsb)) fun D σ H ⟨P0, H0, cold, env, sc, ⟨own, r⟩, q⟩ => by
    have q' : (match env[i]? with
      | some (some x) => (ma y.R env sc).bind fun a s => (ofO (atD x a) s).bind fun n s => (mb y.R env s).bind fun b s => (ofO (atD n.2 b) s).bind fun m s => (me y.R env s).bind fun e s =>
        (ofO ((ints1 m.2).bind fun z => (ints1 e).bind fun e => iAug op z e) s).bind fun w s => (.ok (.nx (env.set i (some (setD x n.1 (setD n.2 m.1 (.int w)))))) s : Res Out)
      | _ => .no).sat (EndW y mt kr P0 H0 cold H D) (XW y EE H0) := q
    split at q'
    · rename_i xd hx
      obtain ⟨vx, hσ, wx0⟩ := r.val i _ hx
      clear wx0
      refine ⟨vx, hσ, _, env, sc, r.full, Res.sat_mono (Res.sat_bind q') (fun ad s0 z0 va H1 o0 x0 hs0 _ _ w0 => ?_) fun _ _ z => z.mono r.ext⟩
      obtain ⟨nm, hnm, z1⟩ := ofO_sat (Res.sat_bind z0)
      obtain ⟨na, rd⟩ := nm
      obtain ⟨la, ai, rfl, rfl, hna, hga⟩ := atD_sat hnm
      cases w0
      have r0 := r.to x0 hs0
      obtain ⟨vx', hσ', wx⟩ := r0.val i _ hx
      rw [hσ] at hσ'; cases hσ'
      rw [hk] at wx
      obtain ⟨p, vs, os, rfl, ep, owl, eo⟩ := wx
      obtain ⟨w, oo1, oo2, oo3, hw, _, rw', _⟩ := OwL.at owl hga
      refine ⟨p, vs, ai, w, rfl, rfl, SqL.of ep, at_eq (OwL.length owl) hna hw, ?_⟩
      refine ⟨_, env, s0, r0.full, Res.sat_mono (Res.sat_bind z1) (fun bd s1 z1 vb H2 o1 x1 hs1 _ _ w1 => ?_) fun _ _ z => z.mono r0.ext⟩
      obtain ⟨m, hm, z2⟩ := ofO_sat (Res.sat_bind z1)
      obtain ⟨n, md⟩ := m
      obtain ⟨l, bi, rfl, rfl, hn, hg⟩ := atD_sat hm
      cases w1
      have r1 := r0.to x1 hs1
      -- the row, now
      have row : ∀ {c : Addr → Prop} {H' : Hp} {s' : Src}, RSo y P0 H0 mt c own env s' σ H' → H' p = some (.lst vs) → ∃ q ws oq opre opost, w = .ref q ∧ H' q = some (.lst ws) ∧ OwL (Ow y.sa c H' 0) ws l oq ∧ own i = p :: (opre ++ (q :: oq) ++ opost) ∧ ∀ (R' : V → Lt.D → List Addr → Prop) (d' : Lt.D) (oz : List Addr), (∀ v d o', (∀ a ∈ o', a ∈ opre ∨ a ∈ opost) → Ow y.sa c H' 1 v d o' → R' v d o') → R' w d' oz → OwL R' vs (la.set na d') (opre ++ oz ++ opost) := by
        intro c H' s' r' ep'
        obtain ⟨vx', hσ', wx⟩ := r'.val i _ hx
        rw [hσ] at hσ'; cases hσ'
        rw [hk] at wx
        obtain ⟨p', vs', os', ee, ep2, owl', eo'⟩ := wx
        cases ee
        rw [ep'] at ep2; cases ep2
        obtain ⟨w', o1, o2, o3, hw', e2, rw2, f⟩ := OwL.at owl' hga
        rw [hw] at hw'; cases hw'
        obtain ⟨q, ws, oq, rfl, eq, owq, rfl⟩ := rw2
        exact ⟨q, ws, oq, o1, o3, rfl, eq, owq, by rw [eo', e2], f⟩
      have pok : p ≠ y.sa ∧ p ≠ y.ca := r0.ok' (i := i) (by rw [eo]; simp)
      have ep1 : H2 p = some (.lst vs) := x1 p _ pok.1 pok.2 ep
      obtain ⟨q, ws, oq, _, _, hwq, eq, owq, _, _⟩ := row r1 ep1
      subst hwq
      obtain ⟨wv, _, _, _, hwv, _, rwv, _⟩ := OwL.at owq hg
      refine ⟨q, ws, bi, wv, rfl, rfl, SqL.of eq, at_eq (OwL.length owq) hn hwv, ?_⟩
      refine ⟨_, env, s1, r1.full, Res.sat_mono (Res.sat_bind z2) (fun ed s2 z3 ve H3 o2 x2 hs2 _ _ w2 => ?_) fun _ _ z => z.mono r1.ext⟩
      obtain ⟨w', hw', z4⟩ := ofO_sat (Res.sat_bind z3)
      obtain ⟨i1, h1, hw'⟩ := Option.bind_eq_some_iff.mp hw'
      obtain ⟨i2, h2, hw'⟩ := Option.bind_eq_some_iff.mp hw'
      have e1 := ints1_of h1
      have e2 := ints1_of h2
      subst e1 e2
      cases rwv
      cases w2
      obtain ⟨c2, r2, f2, _⟩ := r.grow ((x0.trans x1).trans x2) hs2
      have ep3 : H3 p = some (.lst vs) := x2 p _ pok.1 pok.2 ep1
      obtain ⟨q', ws', oq', opre, opost, hq', eq', owq', eo', f⟩ := row r2 ep3
      cases hq'
      have hqo : q ∈ own i := by rw [eo']; simp
      have ca : ∀ b, c2 b → b ≠ q := fun b z e => (r2.onew i q hqo).2.2 (e ▸ z)
      have nd : (own i).Nodup := r2.nd i
      have hpq : p ≠ q := by
        rw [eo'] at nd
        rintro rfl
        exact (List.nodup_cons.mp nd).1 (by simp)
      refine ⟨i1, i2, w', rfl, rfl, hw', q, ws', bi, n, rfl, rfl, eq', by rw [OwL.length owq']; exact hn, ?_⟩
      have rl : RpL y.sa c2 H3 ws' l := owq'.toL fun v d o' _ _ q => q
      have tk : ∀ b xs, H3 b = some (.tup xs) → upd H3 q (.lst (ws'.set n (.int w'))) b = some (.tup xs) := fun b xs e => by rw [upd_ne (by rintro rfl; rw [eq'] at e; cases e)]; exact e
      have rl2 := (rl.set n (.int w')).mono (H' := upd H3 q (.lst (ws'.set n (.int w')))) (P' := c2) (fun b u z e => ⟨z, by rw [upd_ne (ca b z)]; exact e⟩) tk
      have n0 := nd
      rw [eo'] at n0
      obtain ⟨p1, n2⟩ := List.nodup_cons.mp n0
      obtain ⟨m1, m2, m3⟩ := List.nodup_append.mp n2
      obtain ⟨k1, k2, k3⟩ := List.nodup_append.mp m1
      have g := f (Ow y.sa c2 (upd H3 q (.lst (ws'.set n (.int w')))) 1) (.lst (l.set n (.int w'))) [q] (fun v d o' ho z => z.mono 1 (fun b u z e => ⟨z, by rw [upd_ne (ca b z)]; exact e⟩) (fun b u hb e => by
        have : b ≠ q := by
          rintro rfl
          rcases ho b hb with z | z
          · exact k3 b z b (by simp) rfl
          · exact m3 b (by simp) b z rfl
        rw [upd_ne this]; exact e) tk) ⟨q, _, [], rfl, upd_same, OwL.of (fun _ _ q => q) rl2, rfl⟩
      have hsub : (p :: (opre ++ [q] ++ opost)).Sublist (own i) := by
        rw [eo']
        refine List.Sublist.cons_cons p (List.Sublist.append (List.Sublist.append (.refl _) ?_) (.refl _))
        exact List.Sublist.cons_cons q (List.nil_sublist _)
      obtain ⟨r3, f3⟩ := r2.put (u' := .lst (ws'.set n (.int w'))) (d' := .lst (la.set na (.lst (l.set n (.int w'))))) (o' := p :: (opre ++ [q] ++ opost)) hqo eq' (by intro xs e; cases e) hσ (by rw [hk]; exact ⟨p, vs, _, rfl, by rw [upd_ne hpq]; exact ep3, g, rfl⟩) (hsub.nodup nd) fun b hb => .inl (hsub.subset hb)
      exact (show EndW y mt kr P0 H0 cold H D (.nx _) s2 from z4) _ _ _ (f2.trans f3) r3
    · exact q'.elim
/-- several names at once -/
def tParN (is : List Nat) (ta : TA) : TS := fun D σ H => ta σ H fun vs H1 => vs.length = is.length ∧ D.nx (setV is vs σ) H1
theorem OwZ.lens {sa : Addr} {P : Addr → Prop} {H : Hp} {ks : List Nat} {vs : List V} {ds : List Lt.D} {o : List Addr} (h : OwZ sa P H ks vs ds o) : vs.length = ks.length := by
  induction h with
  | nil => rfl
  | cons _ _ ih => simp [ih]
theorem s_par {es : List Expr} {ml : LM} {st : Stmt} {is : List Nat} (hf : ∀ ta, PA X es ta → PS X st (tParN is ta)) (he : PA X es (rdZ y EE (is.map (dep mt)) ml)) : PS X st (rdS y EE mt kr (sPar (hots mt) is ml)) :=
  PS.imp (hf _ he) fun D σ H ⟨P0, H0, cold, env, sc, ⟨own, r⟩, q⟩ => by
    have q' : ((ml y.R (mask (hots mt) env) sc).bind fun ds s => match setAll is ds env with
      | some env => (.ok (.nx env) s : Res Out)
      | none => .no).sat (EndW y mt kr P0 H0 cold H D) (XW y EE H0) := q
    refine ⟨_, _, sc, r.masked, Res.sat_mono (Res.sat_bind q') (fun ds s' z vs H1 o x hs no nd w => ⟨by rw [w.lens]; simp, ?_⟩) fun _ _ z => z.mono r.ext⟩
    cases e : setAll is ds env with
    | none => rw [e] at z; exact z.elim
    | some env' =>
      rw [e] at z
      obtain ⟨o', t1, t2, t3⟩ := w.trim
      have sub : ∀ a ∈ o', a ∈ o := fun a ha => t1.subset ha
      obtain ⟨r2, f2, h2⟩ := r.hold x hs (o := o') fun a ha => no a (sub a ha)
      have r3 := setZ r2 (t3.mono (P' := fun a => Pn cold H a ∧ a ∉ o') (fun a u q e => ⟨⟨q.1, fun z => q.2 (sub a z)⟩, e⟩) (fun _ _ _ e => e) fun _ _ e => e) (t1.nodup nd) (fun a ha => ⟨(h2 a ha).1, t2 a ha, (h2 a ha).2.1, (h2 a ha).2.2⟩) e
      exact (show EndW y mt kr P0 H0 cold H D (.nx env') s' from z) _ _ _ f2 r3
def wkA (ta : TA) : TA := fun σ H Q => ∃ Q0, ta σ H Q0 ∧ ∀ vs H1, Q0 vs H1 → Q vs H1
theorem pa_wk {es : List Expr} {ta : TA} (h : PA X es ta) : PA X es (wkA ta) := ⟨fun pos pins s σ H Q I ⟨Q0, q, f⟩ => thn (h.run pos pins s σ H Q0 I q) fun us s1 ⟨vs, H1, I1, r, z⟩ => ⟨vs, H1, I1, r, f _ _ z⟩⟩
theorem par2 {i j : Nat} {st : Stmt} {es : List Expr} (h : ∀ ta, PA X es ta → PS X st (tPar i j ta)) : ∀ ta, PA X es ta → PS X st (tParN [i, j] ta) := fun ta ha => PS.imp (h _ (pa_wk ha)) fun D σ H q =>
  ⟨_, q, fun vs H1 z => by
    obtain ⟨hl, z⟩ := z
    match vs, hl with
    | [v, w], _ => exact ⟨v, w, rfl, z⟩⟩
theorem par3 {i j l : Nat} {st : Stmt} {es : List Expr} (h : ∀ ta, PA X es ta → PS X st (tPar3 i j l ta)) : ∀ ta, PA X es ta → PS X st (tParN [i, j, l] ta) := fun ta ha => PS.imp (h _ (pa_wk ha)) fun D σ H q =>
  ⟨_, q, fun vs H1 z => by
    obtain ⟨hl, z⟩ := z
    match vs, hl with
    | [u, v, w], _ => exact ⟨u, v, w, rfl, z⟩⟩
end
section
variable {y : Yx} {X : Cx} {EE : XK} {f e : Expr} {es : List Expr} {ks : List Keyword} {ma me : EM} {p0 apos cpos : Pos} {k : Nat}
theorem e_cnt {q0 : Pos} {e0 : Expr} (ho : PE X (.Call (.Name "list" q0) (e0 :: es) ks p0) (rdE y EE 0 ma)) (he : PE X e (rdE y EE 0 me)) (hs : notStar e = true) (hline : (apos.endLine == cpos.line) = true) : PE X (.Call (.Attribute (.Call (.Name "list" q0) (e0 :: es) ks p0) "count" apos) [e] [] cpos) (rdE y EE k (eCnt ma me)) :=
  PE.imp (pe_bm (T := "list") PySem.F.plainAttrs_list PySem.F.slot_list_count PySem.F.type_list_count mt_lcount ho (pa_cons he pa_nil (star_ns hs)) (by rfl) (app_few hs) hline (star_ns hs) (by rfl)) fun σ H Q ⟨P, env, s, st, q⟩ => by
    refine bindE st.bs q fun d1 s1 v1 H1 x1 b1 r1 q1 => ?_
    cases r1 with
    | lst pa ha rl =>
      rename_i a vs l
      refine ⟨.inl ⟨rfl, _, SqL.of ha⟩, ?_⟩
      refine bindE b1 q1 fun d2 s2 v2 H2 x2 b2 r2 q2 => ?_
      obtain ⟨d, e, p⟩ := ofO_sat q2
      have r1' := b1.rp x2 (.lst pa ha rl)
      cases r2 <;> first | (cases e; done) | skip
      case int i =>
        cases r1' with
        | lst pa ha rl =>
          obtain ⟨ns, hn, rfl⟩ := Option.map_eq_some_iff.mp (show (Lt.D.ints l).map (fun ns => Lt.D.int (ns.count i : Nat)) = some d from e)
          have hv := RpL.ints rl hn
          subst hv
          exact ⟨_, ns, i, rfl, rfl, SqL.of ha, (post_x b2 p).here rfl (.int _)⟩
    | _ => exact q1.elim
end
end Lt

/-! Lt: from the program's text to the layer's terms. -/
namespace Lt
open PySem PySem.Spec PyProof.Rows L2

structure CC where
  N : List Str
  sc : Scope
  fn : Str → Bool
  tab : Str → Option (Nat × Nat × Nat)
  mt : List (Nat × Nat)
  kr : Nat
  dt : Bool
def blts : List Str := ["len", "range", "enumerate", "zip", "tuple", "list", "sum", "int", "abs", "max", "min", "any", "all", "sorted", "repr"]
def CC.blk (cc : CC) (scope : Scope) : CC := { cc with sc := relS scope cc.sc, fn := fun x => scope.names.lookup x == some .cell }
def ixOf : List Str → Str → Option Nat
  | [], _ => none
  | z :: zs, x => if z = x then some 0 else (ixOf zs x).map (· + 1)
def visB (sc : Scope) (x : Str) : Bool := match sc.names.lookup x with
  | some .local => true
  | some .cell => true
  | some .free => true
  | _ => false
def locB (sc : Scope) (x : Str) : Bool := match sc.names.lookup x with
  | some .local => true
  | some .cell => true
  | _ => false
def lclB (sc : Scope) (x : Str) : Bool := match sc.names.lookup x with
  | some .local => true
  | _ => false
def glB (sc : Scope) (x : Str) : Bool := match sc.names.lookup x with
  | some .globalImplicit => true
  | _ => false
def dbgB (x : Str) : Bool := !(x == ("__debug__" : Str))
def nmOk (x : Str) : Bool := dbgB x && !(x == ("__classdict__" : Str))
def CC.var (cc : CC) (x : Str) : Option Nat := if nmOk x && visB cc.sc x then ixOf cc.N x else none
def CC.tgt (cc : CC) (x : Str) : Option Nat := if locB cc.sc x && (cc.fn x || lclB cc.sc x) then ixOf cc.N x else none
def opB : Operator → Bool
  | .Add => true
  | .Sub => true
  | .Mult => true
  | .FloorDiv => true
  | .Mod => true
  | _ => false
def biT (f : Str) : Option Bi :=
  if f = "len" then some bLen else if f = "tuple" then some bTuple else if f = "list" then some bList else if f = "sum" then some bSum else if f = "int" then some bInt else if f = "abs" then some bAbs
  else if f = "max" then some bMax else if f = "min" then some bMin else if f = "any" then some bAny else if f = "all" then some bAll else if f = "sorted" then some bSorted else if f = "repr" then some bRepr else none
/-- what a def or a built-in of that name is called with -/
def CC.cal (cc : CC) (f : Str) (es : List Expr) : Option (LM → EM) := if glB cc.sc f && dbgB f && es.all notStar then (match cc.tab f with
  | some (fi, np, _) => if es.length = np then some (eCall fi) else none
  | none => (biT f).map eBi) else none
def bltB (cc : CC) (f : Str) : Bool := glB cc.sc f
inductive ItK where
  | r1 (a : Expr)
  | r2 (a b : Expr)
  | en (a : Expr)
  | zp (a b : Expr)
  | sq
def isTup : Expr → Bool
  | .Tuple _ _ _ => true
  | _ => false
def itK (tg : Expr) : Expr → ItK
  | .Call (.Name f _) [a] [] _ => if f = "range" then .r1 a else if f = "enumerate" ∧ isTup tg = true then .en a else .sq
  | .Call (.Name f _) [a, b] [] _ => if f = "range" then .r2 a b else if f = "zip" ∧ isTup tg = true then .zp a b else .sq
  | _ => .sq
def ownOf (N : List Str) (scope : Scope) : List (Str × Nat) := scope.names.filterMap fun p => match p.2 with
  | .local => (ixOf N p.1).map fun i => (p.1, i)
  | .cell => (ixOf N p.1).map fun i => (p.1, i)
  | _ => none
def cfB (sc : Scope) (x : Str) : Bool := match sc.names.lookup x with
  | some .cell => true
  | some .free => true
  | _ => false
def blkB (N : List Str) (sc scope : Scope) (own : List (Str × Nat)) : Bool :=
  decide (scope.kind = .function) && scope.names.all (fun p => decide (scope.names.lookup p.1 = some p.2)) && own.all (fun p => decide (N[p.2]? = some p.1)) &&
  scope.names.all (fun p => match p.2 with
    | .free => cfB sc p.1
    | _ => true) &&
  scope.names.all (fun p => match p.2 with
    | .local => own.any (fun q => q.1 = p.1) || !(N.any fun z => z = p.1)
    | .cell => own.any (fun q => q.1 = p.1) || !(N.any fun z => z = p.1)
    | _ => true)
def cPs (cc : CC) : List Expr → Option (List Nat)
  | [] => some []
  | .Name x _ :: es => (cc.tgt x).bind fun i => (cPs cc es).map (i :: ·)
  | _ => none
def cP (cc : CC) : Expr → Option Pat
  | .Name x _ => (cc.tgt x).map .nm
  | .Tuple es _ _ => (cPs cc es).map .tp
  | _ => none
def gOf (K : PySem.W.Frag) : Pat → TG
  | .nm i => gName i
  | .tp is => gTup K is.length (gNames is)
def plainT : Expr → Bool
  | .Name _ _ => true
  | .Call _ _ _ _ => true
  | .Subscript _ _ _ => true
  | .Constant _ _ _ => true
  | .BinOp _ _ _ _ => true
  | _ => false
def lenB (es : List Expr) : Bool := Nat.ble es.length 1000
mutual
def cE : Nat → CC → Expr → Option EM
  | 0, _, _ => none
  | n + 1, cc, e => match e with
    | .Name x _ => (cc.var x).map eVar
    | .Constant (.int i) _ _ => some (eC (.int i))
    | .Constant (.bool b) _ _ => some (eC (.bl b))
    | .Constant .none _ _ => some (eC .non)
    | .Constant (.str s) _ _ => some (eC (.str s))
    | .Tuple es _ _ => if lenB es then (cL n cc es).map eTup else none
    | .List es _ => if lenB es then (cL n cc es).map eLst else none
    | .Dict [] [] _ => some (eDct cc.dt)
    | .BinOp a op b _ => if opB op then (cE n cc a).bind fun x => (cE n cc b).map fun z => eBin op x z else none
    | .UnaryOp .USub a _ => (cE n cc a).map eNeg
    | .UnaryOp .Not a _ => (cE n cc a).map eNot
    | .Compare a [op] [b] _ => if notSet b then (cE n cc a).bind fun x => (cE n cc b).map fun z => eCmp op x z else none
    | .Compare a [op, op'] [b, c] _ => if notSet c then (cE n cc a).bind fun x => (cE n cc b).bind fun z => (cE n cc c).map fun w => eCmp2 op op' x z w else none
    | .BoolOp op vs _ => cB n cc op vs
    | .IfExp c a b _ => (cT n cc c).bind fun t => (cE n cc a).bind fun x => (cE n cc b).map fun z => eIf t x z
    | .Subscript a (.Slice lo hi none _) _ => (cE n cc a).bind fun x => (cO n cc lo).bind fun l => (cO n cc hi).map fun h => eSlice x l h
    | .Subscript a b _ => if notSlice b then (cE n cc a).bind fun x => (cE n cc b).map fun z => eIdx x z else none
    | .Call (.Name f _) (e :: es) [] _ => (cc.cal f (e :: es)).bind fun g => (cL n cc (e :: es)).map g
    | .Call (.Attribute (.Call (.Name f q) (a0 :: as) ks p0) m ap) [e] [] cp => if f = "list" then (if m = "count" then (if notStar e && ap.endLine == cp.line then (cE n cc (.Call (.Name f q) (a0 :: as) ks p0)).bind fun x => (cE n cc e).map fun z => eCnt x z else none) else none) else none
    | .ListComp elt [⟨tg, iter, ifs, 0⟩] scope _ => if blkB cc.N cc.sc scope (ownOf cc.N scope) && notSet iter then (cI n cc tg iter).bind fun ml => (cP (cc.blk scope) tg).bind fun p => (cC n (cc.blk scope) ifs).bind fun t => (cE n (cc.blk scope) elt).bind fun m =>
        if p.slots.all (fun i => ((ownOf cc.N scope).map (·.2)).any (· == i)) then some (eLc ((ownOf cc.N scope).map (·.2)) ml p t m) else none else none
    | _ => none
def cT : Nat → CC → Expr → Option TM
  | 0, _, _ => none
  | n + 1, cc, e => match e with
    | .UnaryOp .Not a _ => (cT n cc a).map tNot
    | .BoolOp op vs _ => cBT n cc op vs
    | .Compare a [op] [b] _ => if notSet b then (cE n cc a).bind fun x => (cE n cc b).map fun z => tCmp op x z else none
    | .Compare a [op, op'] [b, c] _ => if notSet c then (cE n cc a).bind fun x => (cE n cc b).bind fun z => (cE n cc c).map fun w => tCmp2 op op' x z w else none
    | e => if plainT e then (cE n cc e).map tTru else none
def cB : Nat → CC → BoolOp → List Expr → Option EM
  | 0, _, _, _ => none
  | n + 1, cc, op, vs => match vs with
    | [a] => cE n cc a
    | a :: b :: r => (cE n cc a).bind fun x => (cB n cc op (b :: r)).map fun z => match op with
      | .And => eAnd x z
      | .Or => eOr x z
    | _ => none
def cBT : Nat → CC → BoolOp → List Expr → Option TM
  | 0, _, _, _ => none
  | n + 1, cc, op, vs => match vs with
    | [a] => cT n cc a
    | a :: b :: r => (cT n cc a).bind fun x => (cBT n cc op (b :: r)).map fun z => match op with
      | .And => tAnd x z
      | .Or => tOr x z
    | _ => none
def cL : Nat → CC → List Expr → Option LM
  | 0, _, _ => none
  | n + 1, cc, es => match es with
    | [] => some eNil
    | e :: r => if notStar e then (cE n cc e).bind fun x => (cL n cc r).map fun z => eCons x z else none
def cO : Nat → CC → Option Expr → Option OM
  | 0, _, _ => none
  | n + 1, cc, o => match o with
    | none => some oNone
    | some e => (cE n cc e).map oSome
def cI : Nat → CC → Expr → Expr → Option LM
  | 0, _, _, _ => none
  | n + 1, cc, tg, e => match itK tg e with
    | .r1 a => if glB cc.sc "range" && notStar a then (cE n cc a).map iRange1 else none
    | .r2 a b => if glB cc.sc "range" && notStar a && notStar b then (cE n cc a).bind fun x => (cE n cc b).map fun z => iRange2 x z else none
    | .en a => if glB cc.sc "enumerate" && notStar a then (cE n cc a).map iEnum else none
    | .zp a b => if glB cc.sc "zip" && notStar a && notStar b then (cE n cc a).bind fun x => (cE n cc b).map fun z => iZip x z else none
    | .sq => (cE n cc e).map iSeq
def cC : Nat → CC → List Expr → Option TM
  | 0, _, _ => none
  | n + 1, cc, ifs => match ifs with
    | [] => some tYes
    | [c] => cT n cc c
    | _ => none
end
/-- e can be owned to the depth k -/
def okK : Nat → (Str → Option (Nat × Nat × Nat)) → Nat → Expr → Bool
  | 0, _, _, _ => false
  | n + 1, tab, k, e => if k = 0 then true else match e with
    | .ListComp elt [⟨_, _, _, 0⟩] _ _ => okK n tab (k - 1) elt
    | .List [] _ => true
    | .List _ _ => k == 1
    | .Dict [] [] _ => true
    | .BinOp _ _ _ _ => k == 1
    | .Constant (.int _) _ _ => true
    | .Constant (.bool _) _ _ => true
    | .Constant .none _ _ => true
    | .Constant (.str _) _ _ => true
    | .Tuple _ _ _ => true
    | .UnaryOp _ _ _ => true
    | .Compare _ _ _ _ => true
    | .IfExp _ a b _ => okK n tab k a && okK n tab k b
    | .Subscript _ (.Slice _ _ none _) _ => k == 1
    | .Call (.Name f _) _ _ _ => (match tab f with
      | some (_, _, kr) => k == kr
      | none => k == 1)
    | _ => false

/-! ### statements -/
def isLc : Expr → Bool
  | .ListComp _ _ _ _ => true
  | _ => false
def notComp : Expr → Bool
  | .ListComp _ _ _ _ => false
  | .SetComp _ _ _ _ => false
  | .DictComp _ _ _ _ _ => false
  | _ => true
/-- the name takes the list before the comprehension's own names go -/
def swB (cc : CC) (y : Str) (py : Pos) (e : Expr) : Bool := match e with
  | .ListComp _ _ scope pos => lclB cc.sc y && py.line == pos.line && !(scope.names.any fun p => p.1 == y && (p.2 == .local || p.2 == .cell))
  | _ => false
def cLZ (n : Nat) (cc : CC) : List Nat → List Expr → Option LM
  | [], [] => some eNil
  | k :: ks, e :: r => if notStar e && okK n cc.tab k e then (cE n cc e).bind fun x => (cLZ n cc ks r).map fun z => eCons x z else none
  | _, _ => none
def names2 : List Expr → Option (List (Str × Pos))
  | [] => some []
  | .Name x p :: r => (names2 r).map ((x, p) :: ·)
  | _ => none
/-- stored one by one, from the right -/
def parB (cc : CC) (ts vs : List Expr) : Bool := match names2 ts with
  | some ns => (ts.length == 2 || ts.length == 3) && vs.length == ts.length && vs.all notStar && ns.all (fun p => lclB cc.sc p.1 && p.2.line == (ts.head?.map (·.pos.line)).getD 0) && decide ((ns.map (·.1)).Nodup) && !(vs.all (foldedForSure 8)) && !(vs.all (constantsAlone 8))
  | none => false
/-- stored by way of a tuple, from the left -/
def seqB (cc : CC) (ts : List Expr) (e : Expr) : Bool := match e with
  | .Tuple vs _ _ => !(ts.length == 2 || ts.length == 3) || ts.any (fun t => match t with
    | .Name x _ => !(lclB cc.sc x)
    | _ => false) || vs.all (foldedForSure 8)
  | _ => true
mutual
def cS : Nat → CC → Stmt → Option SM
  | 0, _, _ => none
  | n + 1, cc, st => match st with
    | .Pass _ => some sPass
    | .Break _ => some sBrk
    | .Continue _ => some sCont
    | .Expr (.Constant (.str _) _ _) _ => some sPass
    | .Expr (.Call (.Attribute (.Name x _) m ap) [e] [] cp) _ => if m = "append" then (if notStar e && ap.endLine == cp.line then (cc.var x).bind fun i => (match dep cc.mt i with
        | k + 1 => if okK n cc.tab k e then (cE n cc e).map (sApp k i) else none
        | 0 => none) else none) else none
    | .Return none _ => some sRetN
    | .Return (some e) _ => if okK n cc.tab cc.kr e then (cE n cc e).map sRet else none
    | .If c a b _ => (cT n cc c).bind fun t => (cSs n cc a).bind fun x => (cSs n cc b).map fun z => sIf t x z
    | .While c a [] _ => (cT n cc c).bind fun t => (cSs n cc a).map fun x => sWhile t x
    | .For tg e a [] _ => if notSet e then (cI n cc tg e).bind fun ml => (cP cc tg).bind fun p => if p.slots.all (fun i => dep cc.mt i == 0) then (cSs n cc a).map fun x => sFor (hots cc.mt) ml p x else none else none
    | .Assign [.Name x _] e _ => (cc.tgt x).bind fun i => if okK n cc.tab (dep cc.mt i) e then (cE n cc e).map (sAsg (hots cc.mt) (.nm i)) else none
    | .Assign [.Tuple ts _ _] (.Tuple vs _ _) _ => if parB cc ts vs then (cPs cc ts).bind fun is => (cLZ n cc (is.map (dep cc.mt)) vs).map fun ml => sPar (hots cc.mt) is ml else
        if seqB cc ts (.Tuple vs 0 default) && lenB vs then (cPs cc ts).bind fun is => if is.all (fun i => dep cc.mt i == 0) then (cL n cc vs).map fun ml => sAsg (hots cc.mt) (.tp is) (eTup ml) else none else none
    | .Assign [.Tuple ts _ _] e _ => if isTup e || !(notComp e) then none else (cPs cc ts).bind fun is => if is.all (fun i => dep cc.mt i == 0) then (cE n cc e).map fun m => sAsg (hots cc.mt) (.tp is) m else none
    | .Assign [.Subscript (.Name x _) j _] e _ => if notSlice j then (cc.var x).bind fun i => (match dep cc.mt i with
        | k + 1 => if okK n cc.tab k e then (cE n cc e).bind fun m => (cE n cc j).map fun z => sPut k i z m else none
        | 0 => none) else none
    | .AugAssign (.Name x _) op e _ => (cc.tgt x).bind fun i => if dep cc.mt i == 0 then (cE n cc e).map (sAugI op i) else none
    | .AugAssign (.Subscript (.Name x _) b _) op e _ => if notSlice b then (cc.var x).bind fun i => if dep cc.mt i == 1 then (cE n cc b).bind fun z => (cE n cc e).map fun m => sAug1 op i z m else none else none
    | .AugAssign (.Subscript (.Subscript (.Name x _) a _) b _) op e _ => if notSlice a && notSlice b then (cc.var x).bind fun i => if dep cc.mt i == 2 then (cE n cc a).bind fun w => (cE n cc b).bind fun z => (cE n cc e).map fun m => sAug2 op i w z m else none else none
    | _ => none
def cSs : Nat → CC → List Stmt → Option SM
  | 0, _, _ => none
  | n + 1, cc, sts => match sts with
    | [] => some sPass
    | [st] => cS n cc st
    | st :: r => (cS n cc st).bind fun a => (cSs n cc r).map fun b => sSeq a b
end
end Lt

/-! Lt: what the reader gives is what the model does: expressions. -/
namespace Lt
open PySem PySem.Spec PyProof.Rows L2
structure XOk (y : Yx) (cc : CC) (X : Cx) (EE : XK) : Prop where
  hN : X.N = cc.N
  nd : X.N.Nodup
  sc : X.env.scope = cc.sc
  kind : X.env.scope.kind = .function
  fn : ∀ x, X.fn x = cc.fn x
  calm : X.calm = true
  gd : X.A.guards = some []
  un : X.A.units + 65 < cLine
  ps : Passes (L2.CX X.prog X.w) X EE
  bl : ∀ x ∈ blts, X.mg x = none
  tb : ∀ x fi np kr, cc.tab x = some (fi, np, kr) → ∃ k f fd ps, X.mg x = some (.ref f) ∧ PySem.W.keepIn X.K (.ref f) = true ∧ Binds X.K fd ps [] ∧ Room k X.A ∧ FnG X.prog X.w X.K X.mg X.base (L2.CX X.prog X.w) k f fd ps (spD y fi np kr)
theorem XOk.blk {y : Yx} {cc : CC} {X : Cx} {EE : XK} (o : XOk y cc X EE) {scope : Scope} (hk : scope.kind = .function) (s : Shared) (H : Hp) (C : Addr) (cl : List (Str × Addr)) (fp : List Addr) : XOk y (cc.blk scope) (X.blk s H scope (compEnvC scope cl C X.env) fp) F0 where
  hN := o.hN
  nd := o.nd
  sc := by
    have := o.sc
    show relabel scope X.env = relS scope cc.sc
    rw [← this]; rfl
  kind := hk
  fn := fun x => rfl
  calm := o.calm
  gd := o.gd
  un := o.un
  ps := fun pins σ H1 s1 e s' I c => by
    obtain ⟨a, B, H', cls, d, h⟩ := c
    exact h.2.2.2.2.2.2.2
  bl := o.bl
  tb := o.tb
theorem ix_of {x : Str} : ∀ {N : List Str} {i : Nat}, ixOf N x = some i → N[i]? = some x
  | [], i, h => by simp [ixOf] at h
  | z :: zs, i, h => by
    simp only [ixOf] at h
    split at h
    · rename_i e; cases h; simp [e]
    · obtain ⟨j, h1, rfl⟩ := Option.map_eq_some_iff.mp h
      simpa using ix_of h1
theorem vis_of {sc : Scope} {x : Str} (h : visB sc x = true) : Vis sc x := by
  unfold visB at h
  split at h
  · exact .inl ‹_›
  · exact .inr (.inl ‹_›)
  · exact .inr (.inr ‹_›)
  · cases h
theorem loc_of {sc : Scope} {x : Str} (h : locB sc x = true) : Loc sc x := by
  unfold locB at h
  split at h
  · exact .inl ‹_›
  · exact .inr ‹_›
  · cases h
theorem lcl_of {sc : Scope} {x : Str} (h : lclB sc x = true) : sc.names.lookup x = some .local := by
  unfold lclB at h
  split at h
  · assumption
  · cases h
theorem gl_of {sc : Scope} {x : Str} (h : glB sc x = true) : sc.names.lookup x = some .globalImplicit := by
  unfold glB at h
  split at h
  · assumption
  · cases h
section
variable {y : Yx} {cc : CC} {X : Cx} {EE : XK}
theorem XOk.gl (o : XOk y cc X EE) {x : Str} (h : glB cc.sc x = true) : Gl X x := by
  have := gl_of h
  show X.env.scope.names.lookup x = _
  rw [o.sc]; exact this
theorem XOk.var (o : XOk y cc X EE) {x : Str} {i : Nat} (h : cc.var x = some i) : X.N[i]? = some x ∧ Vis X.env.scope x ∧ (x == ("__debug__" : Str)) = false ∧ (x == ("__classdict__" : Str)) = false := by
  unfold CC.var at h
  split at h
  · rename_i hc
    obtain ⟨h1, h2⟩ := Bool.and_eq_true_iff.mp hc
    obtain ⟨h3, h4⟩ := Bool.and_eq_true_iff.mp h1
    refine ⟨by rw [o.hN]; exact ix_of h, by rw [o.sc]; exact vis_of h2, by simpa [dbgB] using h3, by simpa using h4⟩
  · cases h
theorem XOk.tgt (o : XOk y cc X EE) {x : Str} {i : Nat} (h : cc.tgt x = some i) : X.N[i]? = some x ∧ Loc X.env.scope x ∧ (X.fn x = true ∨ X.env.scope.names.lookup x = some .local) := by
  unfold CC.tgt at h
  split at h
  · rename_i hc
    obtain ⟨h1, h2⟩ := Bool.and_eq_true_iff.mp hc
    refine ⟨by rw [o.hN]; exact ix_of h, by rw [o.sc]; exact loc_of h1, ?_⟩
    rcases Bool.or_eq_true_iff.mp h2 with h2 | h2
    · exact .inl (by rw [o.fn]; exact h2)
    · exact .inr (by rw [o.sc]; exact lcl_of h2)
  · cases h
theorem bi_ok (o : XOk y cc X EE) {f : Str} {g : Bi} (h : biT f = some g) : ∃ v, ((∃ id, v = .builtin id) ∨ ∃ T, v = .type T) ∧ CallOk y X v g 1 ∧ bootBuiltins f = some v ∧ f ∈ blts ∧ f ≠ "__name__" := by
  unfold biT at h
  repeat' split at h
  all_goals first | (cases h; done) | (rename_i e; cases h)
  all_goals subst e
  · exact ⟨_, .inl ⟨_, rfl⟩, ok_len, boot_len, by decide, by decide⟩
  · exact ⟨_, .inr ⟨_, rfl⟩, ok_tuple, by decide +kernel, by decide, by decide⟩
  · exact ⟨_, .inr ⟨_, rfl⟩, ok_list o.calm, by decide +kernel, by decide, by decide⟩
  · exact ⟨_, .inl ⟨_, rfl⟩, ok_sum o.calm, by decide +kernel, by decide, by decide⟩
  · exact ⟨_, .inr ⟨_, rfl⟩, ok_int1, by decide +kernel, by decide, by decide⟩
  · exact ⟨_, .inl ⟨_, rfl⟩, ok_abs, by decide +kernel, by decide, by decide⟩
  · exact ⟨_, .inl ⟨_, rfl⟩, ok_max o.calm, by decide +kernel, by decide, by decide⟩
  · exact ⟨_, .inl ⟨_, rfl⟩, ok_min o.calm, by decide +kernel, by decide, by decide⟩
  · exact ⟨_, .inl ⟨_, rfl⟩, ok_any o.calm, by decide +kernel, by decide, by decide⟩
  · exact ⟨_, .inl ⟨_, rfl⟩, ok_all o.calm, by decide +kernel, by decide, by decide⟩
  · exact ⟨_, .inl ⟨_, rfl⟩, ok_sorted o.un, by decide +kernel, by decide, by decide⟩
  · exact ⟨_, .inl ⟨_, rfl⟩, ok_repr o.gd o.un, by decide +kernel, by decide, by decide⟩
theorem cps_ok (o : XOk y cc X EE) : ∀ {es : List Expr} {is : List Nat}, cPs cc es = some is → NamesOk X es is
  | [], is, h => by simp [cPs] at h; subst h; trivial
  | e :: es, is, h => by
    cases e <;> try (simp [cPs] at h; done)
    case Name x p =>
      simp only [cPs] at h
      obtain ⟨i, h1, h2⟩ := Option.bind_eq_some_iff.mp h
      obtain ⟨js, h3, rfl⟩ := Option.map_eq_some_iff.mp h2
      exact ⟨o.tgt h1, cps_ok o h3⟩
theorem cp_ok (o : XOk y cc X EE) {tg : Expr} {p : Pat} (h : cP cc tg = some p) : PatOk X tg p (gOf X.K p) := by
  unfold cP at h
  split at h
  · obtain ⟨i, h1, rfl⟩ := Option.map_eq_some_iff.mp h
    obtain ⟨k1, k2, k3⟩ := o.tgt h1
    exact pat_nm o.nd k1 k2 k3
  · obtain ⟨is, h1, rfl⟩ := Option.map_eq_some_iff.mp h
    exact pat_tp o.calm o.nd (cps_ok o h1)
  · cases h
theorem blk_ok {N : List Str} {sc scope : Scope} {own : List (Str × Nat)} (h : blkB N sc scope own = true) : BlkOk N sc scope own := by
  unfold blkB at h
  simp only [Bool.and_eq_true, List.all_eq_true, decide_eq_true_eq] at h
  obtain ⟨⟨⟨⟨h1, h2⟩, h3⟩, h4⟩, h5⟩ := h
  refine ⟨h1, h2, h3, fun z hz e => ?_, fun z hz e => ?_⟩
  · have := h4 z hz
    rw [e] at this
    simp only at this
    unfold cfB at this
    split at this
    · exact .inl ‹_›
    · exact .inr ‹_›
    · cases this
  · have := h5 z hz
    have this : (own.any (fun q => q.1 = z.1) || !(N.any fun w => w = z.1)) = true := by
      rcases e with e | e <;> rw [e] at this <;> exact this
    rcases Bool.or_eq_true_iff.mp this with k | k
    · obtain ⟨q, hq, hq2⟩ := List.any_eq_true.mp k
      exact .inl (List.mem_map.mpr ⟨q, hq, by simpa using hq2⟩)
    · exact .inr fun hm => by
        have : N.any (fun w => decide (w = z.1)) = true := List.any_eq_true.mpr ⟨_, hm, by simp⟩
        rw [this] at k; cases k
end
end Lt

/-! Lt: expressions. -/
namespace Lt
open PySem PySem.Spec PyProof.Rows L2
theorem bind2 {α β : Type} {a : Option α} {f : α → Option β} {m : β} (h : a.bind f = some m) : ∃ x, a = some x ∧ f x = some m := Option.bind_eq_some_iff.mp h
theorem map2 {α β : Type} {a : Option α} {f : α → β} {m : β} (h : a.map f = some m) : ∃ x, a = some x ∧ f x = m := Option.map_eq_some_iff.mp h
structure Snd (y : Yx) (n : Nat) : Prop where
  E : ∀ {cc : CC} {X : Cx} {EE : XK} {e : Expr} {m : EM}, XOk y cc X EE → cE n cc e = some m → PE X e (rdE y EE 0 m)
  T : ∀ {cc : CC} {X : Cx} {EE : XK} {e : Expr} {m : TM}, XOk y cc X EE → cT n cc e = some m → PT X e (rdT y EE m)
  B : ∀ {cc : CC} {X : Cx} {EE : XK} {op : BoolOp} {vs : List Expr} {m : EM} {pos : Pos}, XOk y cc X EE → cB n cc op vs = some m → PE X (.BoolOp op vs pos) (rdE y EE 0 m)
  BT : ∀ {cc : CC} {X : Cx} {EE : XK} {op : BoolOp} {vs : List Expr} {m : TM} {pos : Pos}, XOk y cc X EE → cBT n cc op vs = some m → PW X (.BoolOp op vs pos) (rdT y EE m)
  L : ∀ {cc : CC} {X : Cx} {EE : XK} {es : List Expr} {m : LM}, XOk y cc X EE → cL n cc es = some m → PA X es (rdL y EE m) ∧ LmLen m es.length
  O : ∀ {cc : CC} {X : Cx} {EE : XK} {o : Option Expr} {m : OM}, XOk y cc X EE → cO n cc o = some m → PO X o (rdO y EE m)
  I : ∀ {cc : CC} {X : Cx} {EE : XK} {tg e : Expr} {m : LM}, XOk y cc X EE → cI n cc tg e = some m → PI X tg e (rdI y EE m)
  C : ∀ {cc : CC} {X : Cx} {EE : XK} {ifs : List Expr} {m : TM}, XOk y cc X EE → cC n cc ifs = some m → PTs X ifs (rdT y EE m)
section
variable {y : Yx} {cc : CC} {X : Cx} {EE : XK} {n : Nat}
theorem cal_ok (o : XOk y cc X EE) {f : Str} {e : Expr} {es : List Expr} {g : LM → EM} {p pos : Pos} (h : cc.cal f (e :: es) = some g) :
    ∃ k, (∀ {ml : LM}, PA X (e :: es) (rdL y EE ml) → LmLen ml (e :: es).length → PE X (.Call (.Name f p) (e :: es) [] pos) (rdE y EE k (g ml))) ∧ (match cc.tab f with
      | some (_, _, kr) => k = kr
      | none => k = 1) := by
  unfold CC.cal at h
  split at h
  · rename_i hc
    simp only [Bool.and_eq_true] at hc
    obtain ⟨⟨h1, h2⟩, h3⟩ := hc
    have hd : (f == ("__debug__" : Str)) = false := by simpa [dbgB] using h2
    split at h
    · rename_i fi np kr ht
      try rw [ht]
      split at h
      · rename_i hl
        cases h
        obtain ⟨k, fa, fd, ps, k1, k2, k3, k4, F⟩ := o.tb f fi np kr ht
        exact ⟨kr, fun {ml} ha hm => e_call F k4 o.gd (o.gl h1) k1 k2 k3 o.ps ha (by rw [hl] at hm; exact hm) hd h3, rfl⟩
      · cases h
    · rename_i ht
      try rw [ht]
      obtain ⟨b, hb, rfl⟩ := map2 h
      obtain ⟨v, v1, v2, v3, v4, v5⟩ := bi_ok o hb
      exact ⟨1, fun {ml} ha hm => e_bi v1 v2 (o.gl h1) (o.bl _ v4) v3 ha h3 v5 hd, rfl⟩
  · cases h
theorem op_ok {op : Operator} (h : opB op = true) : OpOk y X (binaryOp op) (dBin op) 1 := by
  cases op <;> first | (cases h; done) | skip
  · exact ok_add
  · exact ok_sub
  · exact ok_mul
  · exact ok_mod
  · exact ok_fdiv
theorem lenB_big {es : List Expr} (h : lenB es = true) : es.length ≤ big := Nat.le_trans (Nat.le_of_ble_eq_true h) (by decide)
theorem pts_of {ifs : List Expr} {m : TM} : PTs X [] (rdT y EE tYes) := ⟨fun pins s σ H Q I ⟨P, env, sc, st, q⟩ => pts_nil.run pins s σ H Q I (q H Ext.refl st.2.2)⟩
theorem run_of {K : PySem.W.Frag} {p : Pat} : PatRun p (gOf K p) := by
  cases p
  · exact run_nm
  · exact run_tp
/-- the pieces of a comprehension -/
theorem lc_parts (S : Snd y n) (o : XOk y cc X EE) {elt tg iter : Expr} {ifs : List Expr} {scope : Scope} {pos : Pos} {m : EM} (h : cE (n + 1) cc (.ListComp elt [⟨tg, iter, ifs, 0⟩] scope pos) = some m) :
    ∃ ml p t me, BlkOk X.N X.env.scope scope (ownOf cc.N scope) ∧ notSet iter = true ∧ PI X tg iter (rdI y EE ml) ∧ (∀ (s : Shared) (H : Hp) (C : Addr) (cl : List (Str × Addr)) (fp : List Addr), PG (X.blk s H scope (compEnvC scope cl C X.env) fp) tg (gOf X.K p)) ∧ PatRun p (gOf X.K p) ∧
      (∀ (s : Shared) (H : Hp) (C : Addr) (cl : List (Str × Addr)) (fp : List Addr), PTs (X.blk s H scope (compEnvC scope cl C X.env) fp) ifs (rdT y F0 t)) ∧ cE n (cc.blk scope) elt = some me ∧ (∀ i ∈ p.slots, i ∈ (ownOf cc.N scope).map (·.2)) ∧ m = eLc ((ownOf cc.N scope).map (·.2)) ml p t me ∧ scope.kind = .function := by
  simp only [cE] at h
  split at h
  · rename_i hc
    obtain ⟨h1, h2⟩ := Bool.and_eq_true_iff.mp hc
    obtain ⟨ml, e1, h⟩ := bind2 h
    obtain ⟨p, e2, h⟩ := bind2 h
    obtain ⟨t, e3, h⟩ := bind2 h
    obtain ⟨me, e4, h⟩ := bind2 h
    split at h
    · rename_i hp
      cases h
      have bo : BlkOk X.N X.env.scope scope (ownOf cc.N scope) := by rw [o.hN, o.sc]; exact blk_ok h1
      refine ⟨ml, p, t, me, bo, h2, S.I o e1, fun s H C cl fp => (cp_ok (o.blk bo.kind s H C cl fp) e2).1, run_of, fun s H C cl fp => S.C (o.blk bo.kind s H C cl fp) e3, e4, fun i hi => ?_, rfl, bo.kind⟩
      have := List.all_eq_true.mp hp i hi
      obtain ⟨j, hj, e⟩ := List.any_eq_true.mp this
      have e : j = i := by simpa using e
      exact e ▸ hj
    · cases h
  · cases h
theorem snd_E (S : Snd y n) (o : XOk y cc X EE) {e : Expr} {m : EM} (h : cE (n + 1) cc e = some m) : PE X e (rdE y EE 0 m) := by
  cases e with
  | Name x p =>
    simp only [cE] at h
    obtain ⟨i, h1, rfl⟩ := map2 h
    obtain ⟨k1, k2, k3, k4⟩ := o.var h1
    exact e_var k1 k2 k3 k4
  | Constant c j p =>
    cases c <;> simp only [cE] at h <;> first | (cases h; done) | (cases h)
    · exact e_non
    · exact e_bl
    · exact e_int
    · exact e_str
  | Tuple es j p =>
    simp only [cE] at h
    split at h
    · rename_i hc
      obtain ⟨ml, h1, rfl⟩ := map2 h
      obtain ⟨k1, k2⟩ := S.L o h1
      exact e_tup k1 k2 (lenB_big hc)
    · cases h
  | List es p =>
    simp only [cE] at h
    split at h
    · rename_i hc
      obtain ⟨ml, h1, rfl⟩ := map2 h
      obtain ⟨k1, k2⟩ := S.L o h1
      exact dnE (e_lst k1 k2 (lenB_big hc))
    · cases h
  | Dict ks vs p =>
    cases ks <;> cases vs <;> simp only [cE] at h <;> first | (cases h; done) | (cases h)
    exact dnE e_dct
  | BinOp a op b p =>
    simp only [cE] at h
    split at h
    · rename_i hc
      obtain ⟨x, h1, h⟩ := bind2 h
      obtain ⟨z, h2, rfl⟩ := map2 h
      exact dnE (e_bin (op_ok hc) (S.E o h1) (S.E o h2))
    · cases h
  | UnaryOp op a p =>
    cases op <;> simp only [cE] at h <;> first | (cases h; done) | skip
    · obtain ⟨x, h1, rfl⟩ := map2 h
      exact e_not (S.E o h1)
    · obtain ⟨x, h1, rfl⟩ := map2 h
      exact e_neg (S.E o h1)
  | Compare a ops bs p =>
    match ops, bs, h with
    | [op], [b], h =>
      simp only [cE] at h
      split at h
      · rename_i hc
        obtain ⟨x, h1, h⟩ := bind2 h
        obtain ⟨z, h2, rfl⟩ := map2 h
        exact e_cmp o.un (S.E o h1) (S.E o h2) hc
      · cases h
    | [op, op'], [b, c], h =>
      simp only [cE] at h
      split at h
      · rename_i hc
        obtain ⟨x, h1, h⟩ := bind2 h
        obtain ⟨z, h2, h⟩ := bind2 h
        obtain ⟨w, h3, rfl⟩ := map2 h
        exact e_cmp2 o.un (S.E o h1) (S.E o h2) (S.E o h3) hc
      · cases h
    | [], _, h => simp [cE] at h
    | [_], [], h => simp [cE] at h
    | [_], _ :: _ :: _, h => simp [cE] at h
    | [_, _], [], h => simp [cE] at h
    | [_, _], [_], h => simp [cE] at h
    | [_, _], _ :: _ :: _ :: _, h => simp [cE] at h
    | _ :: _ :: _ :: _, _, h => simp [cE] at h
  | BoolOp op vs p => simp only [cE] at h; exact S.B o h
  | IfExp c a b p =>
    simp only [cE] at h
    obtain ⟨t, h0, h⟩ := bind2 h
    obtain ⟨x, h1, h⟩ := bind2 h
    obtain ⟨z, h2, rfl⟩ := map2 h
    exact e_if (S.T o h0) (S.E o h1) (S.E o h2)
  | Subscript a b p =>
    by_cases hb : notSlice b = true
    · have h' : (if notSlice b then (cE n cc a).bind fun x => (cE n cc b).map fun z => eIdx x z else none) = some m := by
        cases b <;> first | (cases hb; done) | exact h
      rw [if_pos hb] at h'
      obtain ⟨x, h1, h⟩ := bind2 h'
      obtain ⟨z, h2, rfl⟩ := map2 h
      exact e_idx o.un (S.E o h1) (S.E o h2) hb
    · cases b <;> first | (exact absurd rfl hb; done) | skip
      rename_i lo hi st p2
      cases st <;> simp only [cE] at h
      · obtain ⟨x, h1, h⟩ := bind2 h
        obtain ⟨l, h2, h⟩ := bind2 h
        obtain ⟨z, h3, rfl⟩ := map2 h
        exact dnE (e_slice (S.E o h1) (S.O o h2) (S.O o h3))
      · simp [notSlice] at h
  | Call f es ks p =>
    cases f <;> try (simp [cE] at h; done)
    case Attribute g m' ap =>
      cases g <;> try (simp [cE] at h; done)
      case Call g as kk p0 =>
        cases g <;> try (simp [cE] at h; done)
        case Name f q =>
          match as, es, ks, h with
          | a0 :: as, [e], [], h =>
            simp only [cE] at h
            split at h
            · rename_i hf
              split at h
              · rename_i hm
                split at h
                · rename_i hc
                  obtain ⟨c1, c2⟩ := Bool.and_eq_true_iff.mp hc
                  obtain ⟨x, h1, h⟩ := bind2 h
                  obtain ⟨z, h2, rfl⟩ := map2 h
                  have e1 := S.E o h1
                  have e2 := S.E o h2
                  clear h1 h2 h
                  subst hf hm
                  exact e_cnt e1 e2 c1 c2
                · cases h
              · cases h
            · cases h
          | [], _, _, h => simp [cE] at h
          | _ :: _, [], _, h => simp [cE] at h
          | _ :: _, [_], _ :: _, h => simp [cE] at h
          | _ :: _, _ :: _ :: _, _, h => simp [cE] at h
    case Name f q =>
      match es, ks, h with
      | e :: es, [], h =>
        simp only [cE] at h
        obtain ⟨g, h1, h⟩ := bind2 h
        obtain ⟨ml, h2, rfl⟩ := map2 h
        obtain ⟨k1, k2⟩ := S.L o h2
        obtain ⟨k, hk, _⟩ := cal_ok (p := q) (pos := p) o h1
        exact dnE (hk k1 k2)
      | [], _, h => simp [cE] at h
      | _ :: _, _ :: _, h => simp [cE] at h
  | ListComp elt gs scope p =>
    match gs, h with
    | [g], h =>
      obtain ⟨tg, iter, ifs, as⟩ := g
      match as, h with
      | 0, h =>
        obtain ⟨ml, pt, t, me, b1, b2, b3, b4, b5, b6, b7, b8, rfl, hk⟩ := lc_parts S o h
        exact dnE (e_lc o.calm o.nd b3 b1 b4 b5 b6 (fun s H C cl fp => S.E (o.blk hk s H C cl fp) b7) (set_folded b2) b8)
      | .ofNat (_ + 1), h => exact nomatch (show (none : Option EM) = some m from h)
      | .negSucc _, h => exact nomatch (show (none : Option EM) = some m from h)
    | [], h => simp [cE] at h
    | _ :: _ :: _, h => simp [cE] at h
  | _ => simp [cE] at h
theorem snd_T (S : Snd y n) (o : XOk y cc X EE) {e : Expr} {m : TM} (h : cT (n + 1) cc e = some m) : PT X e (rdT y EE m) := by
  have tru : ∀ {e : Expr}, (if plainT e then (cE n cc e).map tTru else none) = some m → PT X e (rdT y EE m) := fun {e} h => by
    split at h
    · rename_i hc
      obtain ⟨x, h1, rfl⟩ := map2 h
      refine t_tru (S.E o h1) fun whole => ?_
      cases e <;> first | rfl | cases hc
    · cases h
  cases e with
  | UnaryOp op a p =>
    cases op with
    | Not =>
      simp only [cT] at h
      obtain ⟨x, h1, rfl⟩ := map2 h
      exact t_not (S.T o h1)
    | _ => exact tru h
  | BoolOp op vs p => simp only [cT] at h; exact (S.BT o h).pt
  | Compare a ops bs p =>
    match ops, bs, h with
    | [op], [b], h =>
      simp only [cT] at h
      split at h
      · rename_i hc
        obtain ⟨x, h1, h⟩ := bind2 h
        obtain ⟨z, h2, rfl⟩ := map2 h
        exact t_cmp o.un (S.E o h1) (S.E o h2) hc
      · cases h
    | [op, op'], [b, c], h =>
      simp only [cT] at h
      split at h
      · rename_i hc
        obtain ⟨x, h1, h⟩ := bind2 h
        obtain ⟨z, h2, h⟩ := bind2 h
        obtain ⟨w, h3, rfl⟩ := map2 h
        exact t_cmp2 o.un (S.E o h1) (S.E o h2) (S.E o h3) hc
      · cases h
    | [], _, h => exact tru h
    | [_], [], h => exact tru h
    | [_], _ :: _ :: _, h => exact tru h
    | [_, _], [], h => exact tru h
    | [_, _], [_], h => exact tru h
    | [_, _], _ :: _ :: _ :: _, h => exact tru h
    | _ :: _ :: _ :: _, _, h => exact tru h
  | _ => exact tru h
theorem snd_I (S : Snd y n) (o : XOk y cc X EE) {tg e : Expr} {m : LM} (h : cI (n + 1) cc tg e = some m) : PI X tg e (rdI y EE m) := by
  simp only [cI] at h
  have en : isTup tg = true → ∃ es k p, tg = .Tuple es k p := fun h => by cases tg <;> first | (cases h; done) | exact ⟨_, _, _, rfl⟩
  unfold itK at h
  split at h
  · rename_i hk
    split at hk
    · rename_i f q a p
      split at hk
      · rename_i hf; subst hf; cases hk
        split at h
        · rename_i hc
          simp only [Bool.and_eq_true] at hc
          obtain ⟨x, h1, rfl⟩ := map2 h
          exact i_range1 (S.E o h1) (o.gl hc.1) (o.bl _ (by decide)) hc.2
        · cases h
      · split at hk <;> cases hk
    · split at hk
      · cases hk
      · split at hk <;> cases hk
    · cases hk
  · rename_i hk
    split at hk
    · split at hk
      · cases hk
      · split at hk <;> cases hk
    · split at hk
      · rename_i hf; subst hf; cases hk
        split at h
        · rename_i hc
          simp only [Bool.and_eq_true] at hc
          obtain ⟨x, h1, h⟩ := bind2 h
          obtain ⟨z, h2, rfl⟩ := map2 h
          exact i_range2 (S.E o h1) (S.E o h2) (o.gl hc.1.1) (o.bl _ (by decide)) hc.1.2 hc.2
        · cases h
      · split at hk <;> cases hk
    · cases hk
  · rename_i hk
    split at hk
    · split at hk
      · cases hk
      · split at hk
        · rename_i hf; obtain ⟨rfl, ht⟩ := hf; cases hk
          obtain ⟨es, kk, pp, rfl⟩ := en ht
          split at h
          · rename_i hc
            simp only [Bool.and_eq_true] at hc
            obtain ⟨x, h1, rfl⟩ := map2 h
            exact i_enum (S.E o h1) (o.gl hc.1) (o.bl _ (by decide)) hc.2
          · cases h
        · cases hk
    · split at hk
      · cases hk
      · split at hk <;> cases hk
    · cases hk
  · rename_i hk
    split at hk
    · split at hk
      · cases hk
      · split at hk <;> cases hk
    · split at hk
      · cases hk
      · split at hk
        · rename_i hf; obtain ⟨rfl, ht⟩ := hf; cases hk
          obtain ⟨es, kk, pp, rfl⟩ := en ht
          split at h
          · rename_i hc
            simp only [Bool.and_eq_true] at hc
            obtain ⟨x, h1, h⟩ := bind2 h
            obtain ⟨z, h2, rfl⟩ := map2 h
            exact i_zip (S.E o h1) (S.E o h2) (o.gl hc.1.1) (o.bl _ (by decide)) hc.1.2 hc.2
          · cases h
        · cases hk
    · cases hk
  · obtain ⟨x, h1, rfl⟩ := map2 h
    exact i_seq (S.E o h1)
theorem snd : ∀ n : Nat, Snd y n
  | 0 => ⟨fun _ h => by simp [cE] at h, fun _ h => by simp [cT] at h, fun _ h => by simp [cB] at h, fun _ h => by simp [cBT] at h, fun _ h => by simp [cL] at h, fun _ h => by simp [cO] at h, fun _ h => by simp [cI] at h, fun _ h => by simp [cC] at h⟩
  | n + 1 => by
    have S := snd n
    refine ⟨fun o h => snd_E S o h, fun o h => snd_T S o h, fun {cc X EE op vs m pos} o h => ?_, fun {cc X EE op vs m pos} o h => ?_, fun {cc X EE es m} o h => ?_, fun {cc X EE oo m} o h => ?_, fun o h => snd_I S o h, fun {cc X EE ifs m} o h => ?_⟩
    · match vs, h with
      | [a], h => simp only [cB] at h; exact e_one (S.E o h)
      | a :: b :: r, h =>
        simp only [cB] at h
        obtain ⟨x, h1, h⟩ := bind2 h
        obtain ⟨z, h2, rfl⟩ := map2 h
        cases op with
        | And => exact e_and (S.E o h1) (S.B o h2)
        | Or => exact e_or (S.E o h1) (S.B o h2)
      | [], h => simp [cB] at h
    · match vs, h with
      | [a], h =>
        simp only [cBT] at h
        have h' := S.T o h
        cases op with
        | And => exact t_and1 h'
        | Or => exact t_or1 h'
      | a :: b :: r, h =>
        simp only [cBT] at h
        obtain ⟨x, h1, h⟩ := bind2 h
        obtain ⟨z, h2, rfl⟩ := map2 h
        cases op with
        | And => exact t_and (S.T o h1) (S.BT o h2)
        | Or => exact t_or (S.T o h1) (S.BT o h2)
      | [], h => simp [cBT] at h
    · match es, h with
      | [], h => simp only [cL] at h; cases h; exact ⟨l_nil, len_nil⟩
      | e :: r, h =>
        simp only [cL] at h
        split at h
        · rename_i hc
          obtain ⟨x, h1, h⟩ := bind2 h
          obtain ⟨z, h2, rfl⟩ := map2 h
          obtain ⟨k1, k2⟩ := S.L o h2
          exact ⟨l_cons (S.E o h1) k1 hc, len_cons k2⟩
        · cases h
    · match oo, h with
      | none, h => simp only [cO] at h; cases h; exact o_none
      | some e, h =>
        simp only [cO] at h
        obtain ⟨x, h1, rfl⟩ := map2 h
        exact o_some (S.E o h1)
    · match ifs, h with
      | [], h => simp only [cC] at h; cases h; exact pts_of (ifs := []) (m := tYes)
      | [c], h => simp only [cC] at h; exact pts_one (S.T o h)
      | _ :: _ :: _, h => simp [cC] at h
end
end Lt

/-! Lt: expressions whose value is owned. -/
namespace Lt
open PySem PySem.Spec PyProof.Rows L2
section
variable {y : Yx} {cc : CC} {X : Cx} {EE : XK} {n k : Nat} {pos : Pos}
theorem e_lst0 : PE X (.List [] pos) (rdE y EE (k + 1) (eLst eNil)) :=
  PE.imp (e_lst (y := y) (EE := EE) l_nil len_nil (by decide)) fun σ H Q ⟨P, env, s, st, q⟩ => ⟨P, env, s, st, by
    have q' : Post y (k + 1) P H Q (.lst []) s := q
    refine (show Post y 1 P H Q (.lst []) s from fun v H' o x hs no nd ow => q' v H' o x hs no nd ?_)
    obtain ⟨a, vs, os, rfl, e, r, rfl⟩ := ow
    cases r
    exact ⟨a, [], [], rfl, e, .nil, rfl⟩⟩
theorem e_dct0 {t : Bool} : PE X (.Dict [] [] pos) (rdE y EE (k + 1) (eDct t)) :=
  PE.imp (e_dct (y := y) (EE := EE) (t := t)) fun σ H Q ⟨P, env, s, st, q⟩ => ⟨P, env, s, st, by
    have q' : Post y (k + 1) P H Q (.dct t []) s := q
    refine (show Post y 1 P H Q (.dct t []) s from fun v H' o x hs no nd ow => q' v H' o x hs no nd ?_)
    rcases ow with ⟨a, kvs, os, rfl, rfl, e, ek, r, rfl⟩ | ⟨a, kvs, os, rfl, rfl, e, ek, r, rfl⟩
    · have : kvs = [] := by simpa using ek.symm
      subst this
      cases r
      exact .inl ⟨a, [], [], rfl, rfl, e, rfl, .nil, rfl⟩
    · have : kvs = [] := by simpa using ek.symm
      subst this
      cases r
      exact .inr ⟨a, [], [], rfl, rfl, e, rfl, .nil, rfl⟩⟩
theorem snd_K : ∀ (n' : Nat) {n : Nat} {cc : CC} {X : Cx} {EE : XK} {e : Expr} {m : EM} {k : Nat}, XOk y cc X EE → okK n' cc.tab k e = true → cE n cc e = some m → PE X e (rdE y EE k m)
  | 0, _, _, _, _, _, _, _, _, hk, _ => by simp [okK] at hk
  | n' + 1, 0, _, _, _, _, _, _, _, _, h => by simp [cE] at h
  | n' + 1, n + 1, cc, X, EE, e, m, 0, o, _, h => (snd (n + 1)).E o h
  | n' + 1, n + 1, cc, X, EE, e, m, k + 1, o, hk, h => by
    have S : Snd y n := snd n
    simp only [okK, Nat.add_one_ne_zero, if_false] at hk
    cases e with
    | Constant c j p =>
      cases c <;> simp only [cE] at h <;> first | (cases h; done) | (cases h)
      · exact e_non
      · exact e_bl
      · exact e_int
      · exact e_str
    | Tuple es j p =>
      simp only [cE] at h
      split at h
      · rename_i hc
        obtain ⟨ml, h1, rfl⟩ := map2 h
        obtain ⟨k1, k2⟩ := S.L o h1
        exact e_tup k1 k2 (lenB_big hc)
      · cases h
    | List es p =>
      simp only [cE] at h
      split at h
      · rename_i hc
        obtain ⟨ml, h1, rfl⟩ := map2 h
        cases es with
        | nil =>
          cases n with
          | zero => simp [cL] at h1
          | succ n => simp only [cL] at h1; cases h1; exact e_lst0
        | cons e es =>
          have : k = 0 := by simpa using hk
          subst this
          obtain ⟨k1, k2⟩ := S.L o h1
          exact e_lst k1 k2 (lenB_big hc)
      · cases h
    | Dict ks vs p =>
      cases ks <;> cases vs <;> simp only [cE] at h <;> first | (cases h; done) | (cases h)
      exact e_dct0
    | BinOp a op b p =>
      have : k = 0 := by simpa using hk
      subst this
      simp only [cE] at h
      split at h
      · rename_i hc
        obtain ⟨x, h1, h⟩ := bind2 h
        obtain ⟨z, h2, rfl⟩ := map2 h
        exact e_bin (op_ok hc) (S.E o h1) (S.E o h2)
      · cases h
    | UnaryOp op a p =>
      cases op <;> simp only [cE] at h <;> first | (cases h; done) | skip
      · obtain ⟨x, h1, rfl⟩ := map2 h
        exact e_not (S.E o h1)
      · obtain ⟨x, h1, rfl⟩ := map2 h
        exact e_neg (S.E o h1)
    | Compare a ops bs p =>
      match ops, bs, h with
      | [op], [b], h =>
        simp only [cE] at h
        split at h
        · rename_i hc
          obtain ⟨x, h1, h⟩ := bind2 h
          obtain ⟨z, h2, rfl⟩ := map2 h
          exact e_cmp o.un (S.E o h1) (S.E o h2) hc
        · cases h
      | [op, op'], [b, c], h =>
        simp only [cE] at h
        split at h
        · rename_i hc
          obtain ⟨x, h1, h⟩ := bind2 h
          obtain ⟨z, h2, h⟩ := bind2 h
          obtain ⟨w, h3, rfl⟩ := map2 h
          exact e_cmp2 o.un (S.E o h1) (S.E o h2) (S.E o h3) hc
        · cases h
      | [], _, h => simp [cE] at h
      | [_], [], h => simp [cE] at h
      | [_], _ :: _ :: _, h => simp [cE] at h
      | [_, _], [], h => simp [cE] at h
      | [_, _], [_], h => simp [cE] at h
      | [_, _], _ :: _ :: _ :: _, h => simp [cE] at h
      | _ :: _ :: _ :: _, _, h => simp [cE] at h
    | IfExp c a b p =>
      simp only [cE] at h
      obtain ⟨t, h0, h⟩ := bind2 h
      obtain ⟨x, h1, h⟩ := bind2 h
      obtain ⟨z, h2, rfl⟩ := map2 h
      simp only [Bool.and_eq_true] at hk
      exact e_if (S.T o h0) (snd_K n' o hk.1 h1) (snd_K n' o hk.2 h2)
    | Subscript a b p =>
      cases b <;> first | (simp at hk; done) | skip
      rename_i lo hi st p2
      cases st with
      | none =>
        have : k = 0 := by simpa using hk
        subst this
        simp only [cE] at h
        obtain ⟨x, h1, h⟩ := bind2 h
        obtain ⟨l, h2, h⟩ := bind2 h
        obtain ⟨z, h3, rfl⟩ := map2 h
        exact e_slice (S.E o h1) (S.O o h2) (S.O o h3)
      | some st => simp at hk
    | Call f es ks p =>
      cases f <;> first | (simp at hk; done) | skip
      · rename_i f q
        match es, ks, h with
        | e :: es, [], h =>
          simp only [cE] at h
          obtain ⟨g, h1, h⟩ := bind2 h
          obtain ⟨ml, h2, rfl⟩ := map2 h
          obtain ⟨k1, k2⟩ := S.L o h2
          obtain ⟨k', hk', hz⟩ := cal_ok (p := q) (pos := p) o h1
          have : k' = k + 1 := by
            simp only at hk
            split at hz
            · rename_i e; rw [e] at hk; simp at hk; omega
            · rename_i e; rw [e] at hk; simp at hk; omega
          subst this
          exact hk' k1 k2
        | [], _, h => simp [cE] at h
        | _ :: _, _ :: _, h => simp [cE] at h
    | ListComp elt gs scope p =>
      match gs, h with
      | [g], h =>
        obtain ⟨tg, iter, ifs, as⟩ := g
        match as, h, hk with
        | 0, h, hk =>
          obtain ⟨ml, pt, t, me, b1, b2, b3, b4, b5, b6, b7, b8, rfl, hkk⟩ := lc_parts S o h
          exact e_lc o.calm o.nd b3 b1 b4 b5 b6 (fun s H C cl fp => snd_K n' (o.blk hkk s H C cl fp) hk b7) (set_folded b2) b8
        | .ofNat (_ + 1), h, hk => exact nomatch (show (none : Option EM) = some m from h)
        | .negSucc _, h, hk => exact nomatch (show (none : Option EM) = some m from h)
      | [], h => simp [cE] at h
      | _ :: _ :: _, h => simp [cE] at h
    | _ => simp at hk
end
end Lt

/-! Lt: statements. -/
namespace Lt
open PySem PySem.Spec PyProof.Rows L2
section
variable {y : Yx} {cc : CC} {X : Cx} {EE : XK} {n k : Nat} {pos : Pos}
def swE (env : PySem.Env) (z : Str) (py : Pos) (scope : Scope) (pos : Pos) : Bool := env.kindOf z == some .local && py.line == pos.line && !(scope.names.any fun (n, k) => n == z && (k == .local || k == .cell))
theorem sw_lc {elt : Expr} {gs : List Comprehension} {scope : Scope} {pos py : Pos} {z : Str} {l : Nat} {env : PySem.Env} (hk : env.scope.kind = .function) : swapsWith (.ListComp elt gs scope pos) (some (.Name z py)) l env = pure (swE env z py scope pos) := by
  have hb : env.blockKind = .function := by unfold Env.blockKind; rw [hk]; rfl
  unfold swapsWith
  simp only [hb]
  rfl
theorem sw_ncs {e t : Expr} {l : Nat} {env : PySem.Env} (h : notComp e = true) : swapsWithSole [t] e l env = pure false := by
  cases e <;> first | rfl | cases h
theorem sw_nc {e t : Expr} {l : Nat} {env : PySem.Env} (h : notComp e = true) : swapsWith e (some t) l env = pure false := by
  cases e <;> first | rfl | cases h
theorem dn_imp {k : Nat} {m : EM} {σ : L2.St} {H : Hp} {Q : VK} (h : rdE y EE 0 m σ H Q) : rdE y EE k m σ H Q := by
  obtain ⟨P, env, s, st, q⟩ := h
  exact ⟨P, env, s, st, Res.sat_mono q (fun d s' p v H' o x hs no nd r => p v H' [] x hs (fun _ h => by simp at h) .nil (Ow.rp k r (fun a q => ⟨q.1, by simp⟩) fun a ha => ⟨.inr (no a ha), by simp⟩)) fun _ _ q => q⟩
/-- name = e -/
theorem set_ok (o : XOk y cc X EE) {x : Str} {px : Pos} {e : Expr} {i k : Nat} {me : EM} (ht : cc.tgt x = some i) (hk : okK n cc.tab k e = true) (he : cE n cc e = some me) : PS X (.Assign [.Name x px] e pos) (tAsg (rdE y EE k me) (gName i)) := by
  obtain ⟨k1, k2, k3⟩ := o.tgt ht
  by_cases hn : notComp e = true
  · exact ps_set o.nd k1 k2 (snd_K n o hk he) (sw_nc hn) k3
  · cases e <;> first | (exact absurd rfl hn; done) | skip
    · rename_i elt gs scope p
      by_cases hsw : swE X.env x px scope p = true
      · cases n with
        | zero => simp [cE] at he
        | succ n =>
          match gs, he with
          | [g], he =>
            obtain ⟨tg, iter, ifs, as⟩ := g
            match as, he, hk with
            | 0, he, hk =>
              obtain ⟨ml, pt, t, me', b1, b2, b3, b4, b5, b6, b7, b8, rfl, hkk⟩ := lc_parts (snd n) o he
              have hloc : X.env.scope.names.lookup x = some .local := by
                simp only [swE, Bool.and_eq_true, beq_iff_eq] at hsw
                exact hsw.1.1
              have hel : okK n cc.tab (k - 1) elt = true := by
                simp only [okK] at hk
                split at hk
                · rename_i hz; subst hz
                  cases n with
                  | zero => simp [cE] at b7
                  | succ n => simp [okK]
                · exact hk
              refine PS.imp (ps_setLc (te := rdE y F0 (k - 1) me') o.calm o.nd k1 hloc (by rw [sw_lc o.kind, hsw]) b3 b1 b4 b6 (fun s H C cl fp => snd_K n (o.blk hkk s H C cl fp) hel b7) (set_folded b2)) fun D σ H q => ?_
              refine lc_imp b5 b8 ?_
              have q' : rdE y EE k (eLc ((ownOf cc.N scope).map (·.2)) ml pt t me') σ H (fun x H1 => gName i x σ H1 D.nx) := q
              cases k with
              | zero => exact dn_imp q'
              | succ k => exact q'
            | .ofNat (_ + 1), h, hk => exact nomatch (show (none : Option EM) = some me from h)
            | .negSucc _, h, hk => exact nomatch (show (none : Option EM) = some me from h)
          | [], he => simp [cE] at he
          | _ :: _ :: _, he => simp [cE] at he
      · exact ps_set o.nd k1 k2 (snd_K n o hk he) (by rw [sw_lc o.kind, Bool.eq_false_iff.mpr hsw]) k3
    · cases n <;> simp [cE] at he
    · cases n <;> simp [cE] at he
theorem lz_ok (o : XOk y cc X EE) : ∀ {ks : List Nat} {es : List Expr} {ml : LM}, cLZ n cc ks es = some ml → PA X es (rdZ y EE ks ml)
  | [], [], ml, h => by simp [cLZ] at h; subst h; exact z_nil
  | k :: ks, e :: es, ml, h => by
    simp only [cLZ] at h
    split at h
    · rename_i hc
      obtain ⟨h1, h2⟩ := Bool.and_eq_true_iff.mp hc
      obtain ⟨x, e1, h⟩ := bind2 h
      obtain ⟨z, e2, rfl⟩ := map2 h
      exact z_cons (snd_K n o h2 e1) (lz_ok o e2) h1
    · cases h
  | [], _ :: _, ml, h => by simp [cLZ] at h
  | _ :: _, [], ml, h => by simp [cLZ] at h
theorem names2_of : ∀ {ts : List Expr} {ns : List (Str × Pos)}, names2 ts = some ns → ts = ns.map fun p => .Name p.1 p.2
  | [], ns, h => by simp [names2] at h; subst h; rfl
  | t :: ts, ns, h => by
    cases t <;> try (simp [names2] at h; done)
    case Name x p =>
      simp only [names2] at h
      obtain ⟨ms, h1, rfl⟩ := map2 h
      simp [names2_of h1]
theorem any_of {vs : List Expr} {f : Expr → Bool} (h : vs.all notStar = true) (hf : ∀ v, notStar v = true → f v = false) : vs.any f = false := by
  rw [List.any_eq_false]
  intro v hv
  rw [hf v (List.all_eq_true.mp h v hv)]
  simp
theorem fm2 {a b : Expr} {x z : Str} {f : Expr → Option Str} (h1 : f a = some x) (h2 : f b = some z) : [a, b].filterMap f = [x, z] := by simp [List.filterMap, h1, h2]
theorem fm3 {a b c : Expr} {x z w : Str} {f : Expr → Option Str} (h1 : f a = some x) (h2 : f b = some z) (h3 : f c = some w) : [a, b, c].filterMap f = [x, z, w] := by simp [List.filterMap, h1, h2, h3]
theorem sst2 {x z : Str} {px pz : Pos} {a b : Expr} {env : PySem.Env} {k1 k2 : Nat} {p1 p2 : Pos} (hb : env.blockKind = .function) (ha : [a, b].all notStar = true) (hx : env.kindOf x = some .local) (hz : env.kindOf z = some .local) (hl : pz.line = px.line) (hxz : x ≠ z)
    (h1 : [a, b].all (foldedForSure 8) = false) (h2 : [a, b].all (constantsAlone 8) = false) : swappedStores [.Tuple [.Name x px, .Name z pz] k1 p1] (.Tuple [a, b] k2 p2) env = pure (some [x, z]) := by
  have e3 : [x, z].eraseDups = [x, z] := by
    rw [List.eraseDups_cons, List.filter_cons]
    have : (!z == x) = true := by simpa using Ne.symm hxz
    rw [if_pos this]; simp [List.eraseDups_cons]
  unfold swappedStores
  simp only [hb, h1, h2]
  rw [any_of ha (fun v hv => by cases v <;> first | rfl | cases hv), fm2 (x := x) (z := z) (by simp [hx, Expr.pos]) (by simp [hz, Expr.pos, hl]), e3]
  rfl
theorem sst3 {x z w : Str} {px pz pw : Pos} {a b c : Expr} {env : PySem.Env} {k1 k2 : Nat} {p1 p2 : Pos} (hb : env.blockKind = .function) (ha : [a, b, c].all notStar = true) (hx : env.kindOf x = some .local) (hz : env.kindOf z = some .local) (hw : env.kindOf w = some .local) (hl : pz.line = px.line) (hl2 : pw.line = px.line)
    (hxz : x ≠ z) (hxw : x ≠ w) (hzw : z ≠ w)
    (h1 : [a, b, c].all (foldedForSure 8) = false) (h2 : [a, b, c].all (constantsAlone 8) = false) : swappedStores [.Tuple [.Name x px, .Name z pz, .Name w pw] k1 p1] (.Tuple [a, b, c] k2 p2) env = pure (some [x, z, w]) := by
  have e3 : [x, z, w].eraseDups = [x, z, w] := by
    have t1 : (!z == x) = true := by simpa using Ne.symm hxz
    have t2 : (!w == x) = true := by simpa using Ne.symm hxw
    have t3 : (!w == z) = true := by simpa using Ne.symm hzw
    rw [List.eraseDups_cons, List.filter_cons, if_pos t1, List.filter_cons, if_pos t2, List.filter_nil, List.eraseDups_cons, List.filter_cons, if_pos t3]
    simp [List.eraseDups_cons]
  unfold swappedStores
  simp only [hb, h1, h2]
  rw [any_of ha (fun v hv => by cases v <;> first | rfl | cases hv), fm3 (x := x) (z := z) (w := w) (by simp [hx, Expr.pos]) (by simp [hz, Expr.pos, hl]) (by simp [hw, Expr.pos, hl2]), e3]
  rfl
theorem fm_lt {α β : Type} {f : α → Option β} : ∀ {ts : List α}, (∃ t ∈ ts, f t = none) → (ts.filterMap f).length < ts.length
  | [], ⟨t, h, _⟩ => by simp at h
  | a :: ts, ⟨t, h, e⟩ => by
    have hle : (ts.filterMap f).length ≤ ts.length := List.length_filterMap_le f ts
    rcases List.mem_cons.mp h with rfl | h
    · rw [List.filterMap_cons_none e]; simp; omega
    · have ih := fm_lt (f := f) ⟨t, h, e⟩
      cases q : f a with
      | none => rw [List.filterMap_cons_none q, List.length_cons]; omega
      | some b => rw [List.filterMap_cons_some q, List.length_cons, List.length_cons]; omega
/-- stored by way of the tuple -/
theorem sst_no {ts vs : List Expr} {env : PySem.Env} {k1 k2 : Nat} {p1 p2 : Pos} (hsc : env.scope = cc.sc) (h : seqB cc ts (.Tuple vs 0 default) = true) : swappedStores [.Tuple ts k1 p1] (.Tuple vs k2 p2) env = pure none := by
  unfold swappedStores
  simp only
  simp only [seqB, Bool.or_eq_true] at h
  split
  · rfl
  · rename_i c1
    split
    · rfl
    · split
      · rfl
      · rename_i c3
        split
        · rfl
        · rename_i c4
          exfalso
          rcases h with (h | h) | h
          · exact c1 (by simp [h])
          · obtain ⟨t, h1, h2⟩ := List.any_eq_true.mp h
            refine c3 ?_
            refine Bool.or_eq_true_iff.mpr (.inl ?_)
            rw [bne_iff_ne]
            refine Nat.ne_of_lt (fm_lt ⟨t, h1, ?_⟩)
            cases t <;> try (cases h2; done)
            rename_i x p
            have h2' : lclB cc.sc x = false := by simpa using h2
            have : (env.kindOf x == some .local) = false := by
              cases e : env.kindOf x == some .local with
              | false => rfl
              | true =>
                have e' : env.scope.names.lookup x = some .local := by simpa [Env.kindOf] using e
                rw [hsc] at e'
                simp [lclB, e'] at h2'
            simp [this]
          · exact c4 h
theorem par_ok (o : XOk y cc X EE) {ts vs : List Expr} {k1 k2 : Nat} {p1 p2 pos : Pos} {is : List Nat} (h : parB cc ts vs = true) (hi : cPs cc ts = some is) : ∀ ta, PA X vs ta → PS X (.Assign [.Tuple ts k1 p1] (.Tuple vs k2 p2) pos) (tParN is ta) := by
  have hb : X.env.blockKind = .function := by unfold Env.blockKind; rw [o.kind]; rfl
  have lk : ∀ {x : Str}, lclB cc.sc x = true → X.env.kindOf x = some .local := fun {x} h => by
    have := lcl_of h
    rw [← o.sc] at this; exact this
  unfold parB at h
  split at h
  · rename_i ns hn
    have ht := names2_of hn
    subst ht
    simp only [Bool.and_eq_true, List.length_map, decide_eq_true_eq, Bool.not_eq_true', Bool.or_eq_true, beq_iff_eq] at h
    obtain ⟨⟨⟨⟨⟨⟨h1, h2⟩, h3⟩, h4⟩, h5⟩, h6⟩, h7⟩ := h
    rcases h1 with h1 | h1
    · match ns, vs, h1, h2 with
      | [(x, px), (z, pz)], [a, b], _, _ =>
        simp only [List.map_cons, List.map_nil, cPs] at hi
        obtain ⟨i, hi1, hi⟩ := bind2 hi
        obtain ⟨is', hi2, rfl⟩ := map2 hi
        obtain ⟨j, hj1, hi2⟩ := bind2 hi2
        obtain ⟨is'', hj2, rfl⟩ := map2 hi2
        cases hj2
        obtain ⟨k1', _, _⟩ := o.tgt hi1
        obtain ⟨k2', _, _⟩ := o.tgt hj1
        simp only [List.all_cons, List.all_nil, Bool.and_eq_true, beq_iff_eq, List.map_cons, List.map_nil, List.head?_cons, Option.map_some, Option.getD_some, and_true, Expr.pos] at h4
        obtain ⟨a1, a3, a4⟩ := h4
        have hxz : x ≠ z := by simpa using h5
        have hij : i ≠ j := by rintro rfl; rw [k1'] at k2'; cases k2'; exact hxz rfl
        exact par2 fun ta ha => ps_par o.calm o.nd k1' k2' hij (lk a1) (lk a3) ha (sst2 hb h3 (lk a1) (lk a3) a4 hxz h6 h7)
    · match ns, vs, h1, h2 with
      | [(x, px), (z, pz), (w, pw)], [a, b, c], _, _ =>
        simp only [List.map_cons, List.map_nil, cPs] at hi
        obtain ⟨i, hi1, hi⟩ := bind2 hi
        obtain ⟨is', hi2, rfl⟩ := map2 hi
        obtain ⟨j, hj1, hi2⟩ := bind2 hi2
        obtain ⟨is'', hj2, rfl⟩ := map2 hi2
        obtain ⟨l, hl1, hj2⟩ := bind2 hj2
        obtain ⟨is3, hl2, rfl⟩ := map2 hj2
        cases hl2
        obtain ⟨k1', _, _⟩ := o.tgt hi1
        obtain ⟨k2', _, _⟩ := o.tgt hj1
        obtain ⟨k3', _, _⟩ := o.tgt hl1
        simp only [List.all_cons, List.all_nil, Bool.and_eq_true, beq_iff_eq, List.map_cons, List.map_nil, List.head?_cons, Option.map_some, Option.getD_some, and_true, Expr.pos] at h4
        obtain ⟨a1, ⟨a3, a4⟩, a5, a6⟩ := h4
        simp only [List.map_cons, List.map_nil, List.nodup_cons, List.mem_cons, List.not_mem_nil, or_false, not_or] at h5
        obtain ⟨⟨hxz, hxw⟩, hzw, _⟩ := h5
        have hij : i ≠ j := by rintro rfl; rw [k1'] at k2'; cases k2'; exact hxz rfl
        have hil : i ≠ l := by rintro rfl; rw [k1'] at k3'; cases k3'; exact hxw rfl
        have hjl : j ≠ l := by rintro rfl; rw [k2'] at k3'; cases k3'; exact hzw rfl
        exact par3 fun ta ha => ps_par3 o.calm o.nd k1' k2' k3' hij hil hjl (lk a1) (lk a3) (lk a5) ha (sst3 hb h3 (lk a1) (lk a3) (lk a5) a4 a6 hxz hxw hzw h6 h7)
  · cases h
end
section
variable {y : Yx}
def SndS (y : Yx) (n : Nat) : Prop := ∀ {cc : CC} {X : Cx} {EE : XK}, XOk y cc X EE → PassesOwn (model X.prog X.w) X.A X.env X.xe → (∀ {st : Stmt} {m : SM}, cS n cc st = some m → PS X st (rdS y EE cc.mt cc.kr m)) ∧ ∀ {sts : List Stmt} {m : SM}, cSs n cc sts = some m → PSs X sts (rdS y EE cc.mt cc.kr m)
theorem all_dep {mt : List (Nat × Nat)} {is : List Nat} (h : is.all (fun i => dep mt i == 0) = true) : ∀ i ∈ is, dep mt i = 0 := fun i hi => by
  have := List.all_eq_true.mp h i hi
  simpa using this
theorem snd_S1 {n : Nat} (S : SndS y n) {cc : CC} {X : Cx} {EE : XK} (o : XOk y cc X EE) (po : PassesOwn (model X.prog X.w) X.A X.env X.xe) {st : Stmt} {m : SM} (h : cS (n + 1) cc st = some m) : PS X st (rdS y EE cc.mt cc.kr m) := by
  have SE : Snd y n := snd n
  have Z := fun {st : Stmt} {m : SM} (h : cS n cc st = some m) => (S o po).1 h
  have Zs := fun {st : List Stmt} {m : SM} (h : cSs n cc st = some m) => (S o po).2 h
  unfold cS at h
  split at h
  · cases h; exact s_pass ps_pass
  · cases h; exact s_brk
  · cases h; exact s_cont
  · cases h; exact s_pass ps_doc
  · -- append
    split at h
    · rename_i hm; subst hm
      split at h
      · rename_i hc
        obtain ⟨c1, c2⟩ := Bool.and_eq_true_iff.mp hc
        obtain ⟨i, hi, h⟩ := bind2 h
        split at h
        · rename_i k hk
          split at h
          · rename_i hok
            obtain ⟨me, he, rfl⟩ := map2 h
            obtain ⟨k1, k2, k3, k4⟩ := o.var hi
            exact s_app k1 k2 k3 k4 hk (snd_K n o hok he) c1 rfl c2
          · cases h
        · cases h
      · cases h
    · cases h
  · cases h; exact s_retN
  · split at h
    · rename_i hok
      obtain ⟨me, he, rfl⟩ := map2 h
      exact s_ret (snd_K n o hok he)
    · cases h
  · obtain ⟨t, h1, h⟩ := bind2 h
    obtain ⟨a, h2, h⟩ := bind2 h
    obtain ⟨b, h3, rfl⟩ := map2 h
    exact s_if (SE.T o h1) (Zs h2) (Zs h3)
  · obtain ⟨t, h1, h⟩ := bind2 h
    obtain ⟨a, h2, rfl⟩ := map2 h
    exact s_while po (SE.T o h1) (Zs h2)
  · split at h
    · rename_i hc
      obtain ⟨ml, h1, h⟩ := bind2 h
      obtain ⟨p, h2, h⟩ := bind2 h
      split at h
      · rename_i hd
        obtain ⟨a, h3, rfl⟩ := map2 h
        obtain ⟨g1, g2⟩ := cp_ok o h2
        exact s_for po o.calm (SE.I o h1) g1 g2 (all_dep hd) (Zs h3) (set_folded hc)
      · cases h
    · cases h
  · obtain ⟨i, hi, h⟩ := bind2 h
    split at h
    · rename_i hok
      obtain ⟨me, he, rfl⟩ := map2 h
      exact s_asgH (set_ok o hi hok he)
    · cases h
  · split at h
    · rename_i hp
      obtain ⟨is, h1, h⟩ := bind2 h
      obtain ⟨ml, h2, rfl⟩ := map2 h
      exact s_par (par_ok o hp h1) (lz_ok o h2)
    · split at h
      · rename_i hc
        obtain ⟨c1, c2⟩ := Bool.and_eq_true_iff.mp hc
        obtain ⟨is, h1, h⟩ := bind2 h
        split at h
        · rename_i hd
          obtain ⟨ml, h2, rfl⟩ := map2 h
          obtain ⟨k1, k2⟩ := SE.L o h2
          refine s_asg (g := gTup X.K is.length (gNames is)) (ps_asg (e_tup k1 k2 (lenB_big c2)) (pat_tp o.calm o.nd (cps_ok o h1)).1 rfl (sst_no (cc := cc) o.sc c1) rfl) run_tp (all_dep hd)
        · cases h
      · cases h
  · split at h
    · cases h
    · rename_i hc
      simp only [Bool.or_eq_true, Bool.not_eq_true', not_or, Bool.not_eq_true, Bool.not_eq_false] at hc
      obtain ⟨hc1, hc2⟩ := hc
      obtain ⟨is, h1, h⟩ := bind2 h
      split at h
      · rename_i hd
        obtain ⟨me, h2, rfl⟩ := map2 h
        refine s_asg (g := gTup X.K is.length (gNames is)) (ps_asg (SE.E o h2) (pat_tp o.calm o.nd (cps_ok o h1)).1 (sw_ncs hc2) ?_ rfl) run_tp (all_dep hd)
        · rename_i e _ _ _ _ _
          revert hc1
          cases ‹Expr› <;> first | (intro _; rfl) | (intro hc; cases hc)
      · cases h
  · split at h
    · rename_i hc
      obtain ⟨i, hi, h⟩ := bind2 h
      split at h
      · rename_i k hk
        split at h
        · rename_i hok
          obtain ⟨me, he, h⟩ := bind2 h
          obtain ⟨mj, hj, rfl⟩ := map2 h
          obtain ⟨k1, k2, k3, k4⟩ := o.var hi
          exact s_put (by have := o.un; omega) k1 k2 k3 k4 hk (snd_K n o hok he) (SE.E o hj) hc
        · cases h
      · cases h
    · cases h
  · obtain ⟨i, hi, h⟩ := bind2 h
    split at h
    · rename_i hd
      obtain ⟨me, he, rfl⟩ := map2 h
      obtain ⟨k1, k2, k3⟩ := o.tgt hi
      exact s_augI o.nd k1 k2 k3 (by simpa using hd) (SE.E o he)
    · cases h
  · split at h
    · rename_i hc
      obtain ⟨i, hi, h⟩ := bind2 h
      split at h
      · rename_i hd
        obtain ⟨mb, hb, h⟩ := bind2 h
        obtain ⟨me, he, rfl⟩ := map2 h
        obtain ⟨k1, k2, k3, k4⟩ := o.var hi
        exact s_aug1 k1 k2 k3 k4 (by simpa using hd) (SE.E o hb) hc (SE.E o he)
      · cases h
    · cases h
  · split at h
    · rename_i hc
      obtain ⟨c1, c2⟩ := Bool.and_eq_true_iff.mp hc
      obtain ⟨i, hi, h⟩ := bind2 h
      split at h
      · rename_i hd
        obtain ⟨ma, ha, h⟩ := bind2 h
        obtain ⟨mb, hb, h⟩ := bind2 h
        obtain ⟨me, he, rfl⟩ := map2 h
        obtain ⟨k1, k2, k3, k4⟩ := o.var hi
        exact s_aug2 k1 k2 k3 k4 (by simpa using hd) (SE.E o ha) c1 (SE.E o hb) c2 (SE.E o he)
      · cases h
    · cases h
  · cases h
theorem snd_S : ∀ n : Nat, SndS y n
  | 0 => fun o po => ⟨fun h => by simp [cS] at h, fun h => by simp [cSs] at h⟩
  | n + 1 => by
    have S : SndS y n := snd_S n
    intro o po
    refine ⟨fun h => snd_S1 S o po h, fun {sts m} h => ?_⟩
    match sts, h with
    | [], h => simp only [cSs] at h; cases h; exact s_nil
    | [st], h => simp only [cSs] at h; exact s_one ((S o po).1 h)
    | st :: b :: r, h =>
      simp only [cSs] at h
      obtain ⟨a, h1, h⟩ := bind2 h
      obtain ⟨z, h2, rfl⟩ := map2 h
      exact s_cons ((S o po).1 h1) ((S o po).2 h2)
end
end Lt

/-! Lt: the table of defs, by depth. -/
namespace Lt
open PySem PySem.Spec PyProof.Rows L2
/-- the calls to a depth, as the source stands -/
def yn (sa ca : Addr) (XR : Exc → Value → Option Addr → Hp → Prop) (ents : Nat → Option Ent) (n : Nat) : Yx := ⟨sa, ca, ⟨callN ents n⟩, XR⟩
/-- a given function of the table -/
def spP (y : Yx) (g : List D → Src → Res D) (np kr : Nat) : Sp := fun vs H Q E => vs.length = np ∧ ∃ P ds s, Pok y P ∧ RpL y.sa P H vs ds ∧ SrcAt y H s ∧ (g ds s).sat (Post y kr P H Q) (XW y E H)
section
variable {P : Program} {w : World} {K : PySem.W.Frag} {mg : Str → Option Value} {base : Heap}
/-- a def of the text: where it stands -/
structure DefAt (P : Program) (w : World) (K : PySem.W.Frag) (mg : Str → Option Value) (ents : Nat → Option Ent) (tab : Str → Option (Nat × Nat × Nat)) (fi np kr : Nat) (f : Addr) (fd : FuncData) (ps : List Str) : Prop where
  ex : ∃ (x qual : Str) (params : Arguments) (body : List Stmt) (scope : Scope) (N : List Str) (mt : List (Nat × Nat)) (dt : Bool) (m : SM) (fu : Nat), FunD K x qual params body scope [] [] f fd ∧ FnScope N ps scope ∧ np = ps.length ∧
    cSs fu { N := N, sc := scope, fn := fun _ => true, tab := tab, mt := mt, kr := kr, dt := dt } body = some m ∧ (∀ i < ps.length, dep mt i = 0) ∧ ents fi = some (.df ⟨ps.length, N.length, m⟩)
/-- a given one: its promise -/
structure PrAt (P : Program) (w : World) (K : PySem.W.Frag) (mg : Str → Option Value) (base : Heap) (sa ca : Addr) (XR : Exc → Value → Option Addr → Hp → Prop) (ents : Nat → Option Ent) (fi np kr : Nat) (f : Addr) (fd : FuncData) (ps : List Str) : Prop where
  ex : ∃ g, ents fi = some (.pr g) ∧ np = ps.length ∧ ∀ n, FnG P w K mg base (L2.CX P w) (n + 1) f fd ps (spP (yn sa ca XR ents n) g np kr)
structure TabOk (P : Program) (w : World) (K : PySem.W.Frag) (mg : Str → Option Value) (base : Heap) (sa ca : Addr) (XR : Exc → Value → Option Addr → Hp → Prop) (ents : Nat → Option Ent) (tab : Str → Option (Nat × Nat × Nat)) : Prop where
  bl : ∀ x ∈ blts, mg x = none
  at_ : ∀ x fi np kr, tab x = some (fi, np, kr) → ∃ f fd ps, mg x = some (.ref f) ∧ PySem.W.keepIn K (.ref f) = true ∧ Binds K fd ps [] ∧ (DefAt P w K mg ents tab fi np kr f fd ps ∨ PrAt P w K mg base sa ca XR ents fi np kr f fd ps)
variable {sa ca : Addr} {XR : Exc → Value → Option Addr → Hp → Prop} {ents : Nat → Option Ent} {tab : Str → Option (Nat × Nat × Nat)}
theorem replicate_none {α : Type} {k i : Nat} {d : α} (h : (List.replicate k (none : Option α))[i]? = some (some d)) : False := by
  rw [List.getElem?_replicate] at h
  split at h <;> simp at h
/-- the context of a def's body -/
theorem xok_def {qual : Str} {scope : Scope} {N ps : List Str} {mt : List (Nat × Nat)} {dt : Bool} {kr n : Nat} {f : Addr} {cdv : Value} {A : Around} {outer : List PySem.Env} {s : Shared} {H : Hp} {E : XK} (bl : ∀ x ∈ blts, mg x = none) (S : FnScope N ps scope) (hr : Room n (A.deeper (envOfC qual scope s.heap.objs.size f cdv))) (hg : A.guards = some [])
    (tb : ∀ x fi np kr, tab x = some (fi, np, kr) → ∃ f fd ps, mg x = some (.ref f) ∧ PySem.W.keepIn K (.ref f) = true ∧ Binds K fd ps [] ∧ FnG P w K mg base (L2.CX P w) n f fd ps (spD (yn sa ca XR ents n) fi np kr)) :
    XOk (yn sa ca XR ents n) { N := N, sc := scope, fn := fun _ => true, tab := tab, mt := mt, kr := kr, dt := dt } (cxOf (L2.CX P w) P w K mg base N qual scope f cdv A outer s H E) E ∧ PassesOwn (model P w) (A.deeper (envOfC qual scope s.heap.objs.size f cdv)) (envOfC qual scope s.heap.objs.size f cdv) (cxOf (L2.CX P w) P w K mg base N qual scope f cdv A outer s H E).xe := by
  refine ⟨⟨rfl, S.nd, rfl, S.kind, fun _ => rfl, rfl, hg, by have := hr.un; show (A.deeper (envOfC qual scope s.heap.objs.size f cdv)).units + 65 < cLine; omega, ?_, bl, fun x fi np kr h => ?_⟩, passes_of (X := cxOf (L2.CX P w) P w K mg base N qual scope f cdv A outer s H E) rfl⟩
  · exact passes_call (W := fun cls d _ H => E cls d H) (takes_of rfl rfl rfl rfl) fun _ _ _ _ h => h
  · obtain ⟨f', fd', ps', h1, h2, h3, h4⟩ := tb x fi np kr h
    exact ⟨n, f', fd', ps', h1, h2, h3, hr, h4⟩
/-- a def's body, entered -/
theorem enter {y : Yx} {np ns : Nat} {mt : List (Nat × Nat)} {kr : Nat} {m : SM} {P0 : Addr → Prop} {N : List Str} {vs : List V} {ds : List D} {H : Hp} {s : Src} {E : XK} {Q : VK} (hN : N.length = ns) (hl : vs.length = np) (hd : ∀ i < np, dep mt i = 0) (pok : Pok y P0) (rl : RpL y.sa P0 H vs ds) (hs : SrcAt y H s)
    (q : (runDef y.R ⟨np, ns, m⟩ ds s).sat (Post y kr P0 H Q) (XW y E H)) : rdS y E mt kr m { nx := fun _ H' => Q .non H', rt := Q } (L2.start N vs) H := by
  have hl' : ds.length = np := by rw [← rl.length]; exact hl
  unfold runDef at q
  rw [if_pos hl'] at q
  refine ⟨P0, H, P0, ds.map some ++ List.replicate (ns - np) none, s, ⟨fun _ => [], ⟨Ext.refl, hs, ⟨s, hs⟩, pok, fun a h => .inl h, ?_, fun i d e => ?_, fun i a h => by simp at h, fun i => .nil, fun i j a _ h => by simp at h⟩⟩, Res.sat_mono (Res.sat_bind q) (fun o s' z => ?_) fun _ _ z => z⟩
  · simp [L2.start, hN, hl, hl']
  · have hi : i < np := by
      rcases Nat.lt_or_ge i np with h | h
      · exact h
      · rw [List.getElem?_append_right (by simp [hl']; exact h)] at e
        exact (replicate_none e).elim
    rw [List.getElem?_append_left (by simp [hl']; exact hi), List.getElem?_map] at e
    obtain ⟨d', e1, e2⟩ := Option.map_eq_some_iff.mp e
    cases e2
    obtain ⟨v, h1, h2⟩ := rl.get e1
    refine ⟨v, ?_, by rw [hd i hi]; exact h2⟩
    unfold L2.start
    rw [List.getElem?_append_left (by simp [hl]; exact hi), List.getElem?_map, h1]
    rfl
  · cases o with
    | nx env' => exact fun cold' σ' H' fr ⟨own, r⟩ => (show Post y kr P0 H Q .non s' from z).fix (n := 1) r.ext r.src .non rfl
    | rt d => exact z
    | bk _ => exact (show False from z).elim
    | ct _ => exact (show False from z).elim
theorem tab_ok (T : TabOk P w K mg base sa ca XR ents tab) : ∀ (n : Nat) x fi np kr, tab x = some (fi, np, kr) → ∃ f fd ps, mg x = some (.ref f) ∧ PySem.W.keepIn K (.ref f) = true ∧ Binds K fd ps [] ∧ FnG P w K mg base (L2.CX P w) n f fd ps (spD (yn sa ca XR ents n) fi np kr)
  | 0, x, fi, np, kr, h => by
    obtain ⟨f, fd, ps, h1, h2, h3, h4⟩ := T.at_ x fi np kr h
    have hnp : np = ps.length := by
      rcases h4 with ⟨⟨_, _, _, _, _, _, _, _, _, _, _, _, e, _⟩⟩ | ⟨⟨_, _, e, _⟩⟩ <;> exact e
    refine ⟨f, fd, ps, h1, h2, h3, ⟨fun vs H Q E q => by rw [q.1, hnp], fun A outer s H args us vs Q E _ _ _ _ _ q => ?_⟩⟩
    obtain ⟨_, P0, ds, sc, _, _, _, q⟩ := q
    exact (show False from q).elim
  | n + 1, x, fi, np, kr, h => by
    have ih := tab_ok T n
    obtain ⟨f, fd, ps, h1, h2, h3, h4⟩ := T.at_ x fi np kr h
    refine ⟨f, fd, ps, h1, h2, h3, ?_⟩
    rcases h4 with ⟨⟨x', qual, params, body, scope, N, mt, dt, m, fu, F, S, rfl, hc, hd, he⟩⟩ | ⟨⟨g, he, hnp, F⟩⟩
    · obtain ⟨oc, od, dV, kV, doc, pm, an, cdv, ct, osl, rfl, lk, hcd, _, _⟩ := F.ex
      refine fng_of lk hcd S (fun vs H Q E q => q.1) fun A outer s H vs Q E hr hg q => ?_
      obtain ⟨xo, po⟩ := xok_def (P := P) (w := w) (K := K) (base := base) (sa := sa) (ca := ca) (XR := XR) (ents := ents) (tab := tab) (mt := mt) (dt := dt) (kr := kr) (E := E) T.bl S hr hg ih
      refine ⟨_, ((snd_S fu) xo po).2 hc, ?_⟩
      obtain ⟨hl, P0, ds, sc, pok, rl, hs, q⟩ := q
      refine enter rfl hl hd pok rl hs ?_
      have e : (yn sa ca XR ents (n + 1)).R.cl fi ds sc = runDef ⟨callN ents n⟩ ⟨ps.length, N.length, m⟩ ds sc := by
        show callN ents (n + 1) fi ds sc = _
        simp only [callN, he]
        rfl
      rw [e] at q
      exact q
    · refine (F n).imp fun vs H Q E q => ?_
      obtain ⟨hl, P0, ds, sc, pok, rl, hs, q⟩ := q
      refine ⟨hl, P0, ds, sc, pok, rl, hs, ?_⟩
      have e : (yn sa ca XR ents (n + 1)).R.cl fi ds sc = g ds sc := by
        show callN ents (n + 1) fi ds sc = _
        simp only [callN, he]
        rfl
      rw [e] at q
      exact q
end
def tabOf : List (Str × (Nat × Nat × Nat)) → Str → Option (Nat × Nat × Nat)
  | [], _ => none
  | (z, v) :: r, x => if z = x then some v else tabOf r x
theorem tabOf_mem {x : Str} {v : Nat × Nat × Nat} : ∀ {l : List (Str × (Nat × Nat × Nat))}, tabOf l x = some v → (x, v) ∈ l
  | [], h => by simp [tabOf] at h
  | (z, w) :: r, h => by
    simp only [tabOf] at h
    split at h
    · rename_i e; cases h; subst e; exact List.mem_cons_self
    · exact List.mem_cons_of_mem _ (tabOf_mem h)
end Lt

/-! Lt: a law's end (the def's promise knows the guards). -/
namespace Lt
open PySem PySem.Spec PyProof.Rows L2
/-- the law, called from outside, in a heap where at most the script is tracked -/
theorem ran {Pr : Program} {wd : World} {Kf : PySem.W.Frag} {gl bt : Str → Option Value} {d : Nat} {lw sc : Addr} {rec : FuncData} {nm : Str} {pr : Sp} {st : Shared} {us : List Value} {zs : List Int} (G : Hp)
    (kin : Kf.In st.heap) (hgl : st.heap.Ns mainGlobals gl) (hbt : st.heap.Ns builtinsNs bt) (hbo : ∀ z : Str, z ≠ "__name__" → bt z = bootBuiltins z) (hno : st.heap.NoLimit) (hge : st.gens = #[])
    (hsc : st.heap.get? sc = some { cls := .type "list", data := .seq us.toArray }) (room : Room d callerA) (bind : ∀ (t : Shared) (u : Value), BindsTo t rec ⟨[u], []⟩ [(nm, u)])
    (F : ∀ bs : Heap, Kf.In bs → bs.Ns mainGlobals gl → FnG Pr wd Kf gl bs (L2.CX Pr wd) d lw rec [nm] pr)
    (only : ∀ z, G z = none ∨ (z = sc ∧ Kf.lookup sc = none ∧ ∃ o xs, G z = some (.frz o (.lst xs)))) (ok : HOk Pr wd G st.heap) (hp : pr [.ref sc] G (fun v _ => v = .bl true) F0) :
    codeAny (model Pr wd) callerA (.call (.ref lw) ⟨[.ref sc], []⟩) (fun r t => r = .ok (.ret (.bool true)) ∧ OldK st.heap t.heap ∧ t.os = st.os ∧ AllBare t.gens) st := by
  have free : ∀ {z : Addr} {o : Obj}, st.heap.get? z = some o → (∀ its n, o.data ≠ .seq its n) → G z = none := by
    intro z o ez nd
    rcases only z with q | ⟨rfl, _, _⟩
    · exact q
    · rw [hsc] at ez
      cases ez
      exact absurd rfl (nd _ _)
  have names : ∀ {z : Addr} {f : Str → Option Value}, st.heap.Ns z f → (hidT st.heap G).Ns z f := by
    rintro z f ⟨o, l, k, e1, e2, e3⟩
    refine ⟨o, l, k, hidT_get e1 (free e1 ?_), e2, e3⟩
    intro _ _ e
    rw [e2] at e
    cases e
  have kin' : Kf.In (hidT st.heap G) := by
    intro z o ez
    refine hidT_get (kin z o ez) ?_
    rcases only z with q | ⟨rfl, q, _⟩
    · exact q
    · rw [q] at ez
      cases ez
  obtain ⟨lim, l1, l2⟩ := hno
  have mod : Mod Kf gl (hidT st.heap G) := ⟨kin', names hgl, ⟨bt, names hbt, hbo⟩, ⟨lim, names l1, l2⟩⟩
  have nof : ∀ z, z ∈ frs ([] : List PySem.Env) → False := by intro z h; cases h
  have env : Env0 Pr wd Kf gl (hidT st.heap G) callerA [] st G := ⟨rfl, mod, fun _ _ e => of_hidT e, by rw [hidT_size] <;> exact Nat.le_refl _, trivial, fun z h => (nof z h).elim, ok, .of_eq hge⟩
  refine codeAny_mono ((F _ kin' (names hgl)).run callerA [] st G _ [.ref sc] [.ref sc] _ _ room rfl env (bind st _) (.cons rfl .nil) hp) ?_
  rintro (e | fl) t h
  · obtain ⟨_, _, _, _, _, h⟩ := h
    exact (show False from h.2.2.2.2.2.2.2).elim
  · cases fl with
    | ret u =>
      obtain ⟨v, G', h1, h2, h3, h4, h5, h6⟩ := h
      rw [show v = .bl true from h6] at h5
      obtain rfl : u = .bool true := h5
      refine ⟨rfl, OldK.of_keep ?_, h1, h2⟩
      intro z o ez
      rcases only z with q | ⟨_, _, ob, xs, q⟩
      · exact h3.keep z o ez q (fun m => (nof z m).elim) (by simp)
      · have k1 := (ok z _ q).1
        rw [ez] at k1
        cases k1
        exact (h4 z _ (h3.frzs z _ _ q)).1
    | _ => exact (show False from h).elim
/-- a law's walk: facts, the object, the promise over every base -/
theorem walkG {l : PySem.W.OpenLaw} {n d : Nat} {q : Program} {loose : List Str} {XP : (Str → Option Value) → Heap → Prop} {YP : World → Heap → Prop} {r : DefRec} {nm : Str} (hn : l.most = some n) (hn2 : n ≤ sizeLine) (hdf : r.params.defaults = []) (room : Room d callerA)
    (F : ∀ (wd : World) (gl : Str → Option Value) (lw : Addr) (h : Heap), YP wd h → h.Ns mainGlobals gl → gl r.name = some (.ref lw) → ∃ (Kf : PySem.W.Frag) (rec : FuncData) (pr : Sp), Kf.In h ∧ (∀ (t : Shared) (u : Value), BindsTo t rec ⟨[u], []⟩ [(nm, u)]) ∧
      (∀ (G : Hp) (a : Addr) (zs : List Int), zs.length ≤ n → SqL Kf G a (zs.map V.int) → pr [.ref a] G (fun v _ => v = .bl true) F0) ∧ ∀ bs : Heap, Kf.In bs → bs.Ns mainGlobals gl → FnG l.prog wd Kf gl bs (L2.CX l.prog wd) d lw rec [nm] pr) :
    PySem.W.WalkO q loose XP YP l.row.toRowW r [] (fun f vs => PySem.call f vs) := by
  refine Att.attach_call hn hdf ?_
  intro wd s₀ st gl bt lw o pm cd doc a us zs G Y ho hd hcd hm hobj hi hlen hge
  obtain ⟨Kf, rec, pr, kin, hb, hp, hF⟩ := F wd gl lw _ Y G.T.g hm
  have vz := vals_ints hi
  have lz := hi.length
  have small : zs.length ≤ sizeLine := Nat.le_trans hlen hn2
  have go := fun (H : Hp) h1 h2 h3 => ran (Pr := l.prog) (wd := wd) (zs := zs) H kin G.T.g G.T.b G.T.builtins G.T.nolimit hge hobj room hb hF h1 h2 h3
  cases e : Kf.lookup a with
  | some ob =>
    have e2 := kin a ob e
    rw [hobj] at e2
    cases e2
    refine go (fun _ => none) (fun _ => .inl rfl) (fun z u h => nomatch (show (none : Option HO) = some u from h)) (hp _ a zs hlen (.inr ⟨_, us.toArray, _, e, rfl, rfl, rfl, ?_, ?_⟩))
    · rw [List.size_toArray, lz]; exact small
    · simpa using vz
  | none =>
    have one : ∀ z, (if z = a then some (HO.frz { cls := .type "list", data := .seq us.toArray } (.lst (zs.map V.int))) else none) = none ∨ z = a := fun z => by
      by_cases h : z = a
      · exact .inr h
      · exact .inl (if_neg h)
    refine go (fun z => if z = a then some (.frz { cls := .type "list", data := .seq us.toArray } (.lst (zs.map V.int))) else none) (fun z => ?_) ?_ (hp _ a zs hlen (.inl (.inr ⟨_, if_pos rfl⟩)))
    · rcases one z with h | rfl
      · exact .inl h
      · exact .inr ⟨rfl, e, _, _, if_pos rfl⟩
    · intro z u h
      rcases one z with h' | rfl
      · rw [show (if z = a then some (HO.frz { cls := .type "list", data := .seq us.toArray } (.lst (zs.map V.int))) else none) = some u from h] at h'; cases h'
      · have h2 := (if_pos rfl).symm.trans h
        cases h2
        exact ⟨hobj, by rw [List.length_map]; exact small, us, _, vz, hobj⟩
/-- what makes the draws' source of a script -/
def spOpen (K : PySem.W.Frag) : Sp := fun vs H Q _ => ∃ (a : Addr) (zs : List Int), vs = [.ref a] ∧ SqL K H a (zs.map V.int) ∧ zs.length ≤ 63 ∧ ∀ (y : Yx) (H' : Hp) (s : Src), Ex H H' → H y.sa = none → H y.ca = none → SrcAt y H' s → Q (.ref y.sa) H'
def spLaw (K : PySem.W.Frag) : Sp := fun vs H Q _ => ∃ (a : Addr) (zs : List Int), vs = [.ref a] ∧ SqL K H a (zs.map V.int) ∧ zs.length ≤ 63 ∧ ∀ H', Q (.bl true) H'
section
variable {P : Program} {w : World} {K : PySem.W.Frag} {mg : Str → Option Value} {base : Heap} {XR : Exc → Value → Option Addr → Hp → Prop} {ents : Nat → Option Ent} {tab : Str → Option (Nat × Nat × Nat)}
def env0 (ns : Nat) : Env := (List.replicate ns none).set 1 (some .src)
theorem law_fng {x qual : Str} {params : Arguments} {body rest : List Stmt} {scope : Scope} {N : List Str} {dt : Bool} {m : SM} {fu n : Nat} {f fo : Addr} {fd fdo : FuncData} {src opn : Str} {p1 p2 p3 p4 p5 : Pos}
    (F : FunD K x qual params body scope [] [] f fd) (S : FnScope N ["script"] scope) (hb : body = .Assign [.Name src p1] (.Call (.Name opn p2) [.Name "script" p3] [] p4) p5 :: rest) (T : ∀ sa ca, TabOk P w K mg base sa ca XR ents tab)
    (hm : cSs fu { N := N, sc := scope, fn := fun _ => true, tab := tab, mt := [], kr := 0, dt := dt } rest = some m) (FO : FnG P w K mg base (L2.CX P w) n fo fdo ["script"] (spOpen K)) (mo : mg opn = some (.ref fo)) (ko : PySem.W.keepIn K (.ref fo) = true) (bo : Binds K fdo ["script"] [])
    (go : scope.names.lookup opn = some .globalImplicit) (dbo : (opn == ("__debug__" : Str)) = false) (h0 : N[0]? = some ("script" : Str)) (h1 : N[1]? = some src) (l0 : Vis scope "script") (l1 : Loc scope src) (math : ∀ s, ∃ s', m ⟨callN ents n⟩ (env0 N.length) s = .ok (.rt (.bl true)) s') :
    FnG P w K mg base (L2.CX P w) (n + 1) f fd ["script"] (spLaw K) := by
  obtain ⟨oc, od, dV, kV, doc, pm, an, cdv, ct, osl, rfl, lk, hcd, _, _⟩ := F.ex
  refine fng_of lk hcd S (fun vs H Q E h => by obtain ⟨a, zs, rfl, _⟩ := h; rfl) fun A outer s H vs Q E hr hg h => ?_
  have xo := fun sa ca => xok_def (P := P) (w := w) (K := K) (base := base) (sa := sa) (ca := ca) (XR := XR) (ents := ents) (tab := tab) (mt := []) (dt := dt) (kr := 0) (E := E) (qual := qual) (f := f) (cdv := cdv) (outer := outer) (s := s) (H := H) (T sa ca).bl S hr hg (tab_ok (T sa ca) n)
  subst hb
  have X0 := (xo 0 0).1
  refine ⟨_, pss_cons (ps_set (i := 1) S.nd h1 l1 (pe_callG FO hr hg (show Gl _ _ from go) mo ko bo X0.ps (pa_cons (pe_var (i := 0) h0 l0) pa_nil) dbo rfl) rfl) (t := _) (u := fun D σ H => ∃ sa ca, rdS (yn sa ca XR ents n) E [] 0 m D σ H) ⟨fun pins s σ H D I ⟨sa, ca, q⟩ => ((snd_S fu (xo sa ca).1 (xo sa ca).2).2 hm).run pins s σ H D I q⟩, ?_⟩
  obtain ⟨a, zs, rfl, hS, hl, hQ⟩ := h
  refine ⟨V.ref a, rfl, a, zs, rfl, hS, hl, fun y H' sc ex n1 n2 hs => ⟨y.sa, y.ca, fun _ => False, H', fun _ => False, env0 N.length, sc, ⟨fun _ => [], Ext.refl, hs, ⟨sc, hs⟩, fun a h => h.elim, fun a h => h.elim, ?_, fun i d e => ?_, fun i a h => by simp at h, fun i => .nil, fun i j a _ h => by simp at h⟩, ?_⟩⟩
  · have : 1 ≤ N.length := by
      cases N with
      | nil => simp at h0
      | cons _ _ => simp
    simp [env0, L2.start]; omega
  · by_cases hi : i = 1
    · subst hi
      have hlt : 1 < N.length := by
        rcases Nat.lt_or_ge 1 N.length with q | q
        · exact q
        · rw [List.getElem?_eq_none q] at h1; cases h1
      unfold env0 at e
      rw [List.getElem?_set_self (by simpa using hlt)] at e
      cases e
      refine ⟨.ref y.sa, List.getElem?_set_self ?_, .src⟩
      simp [L2.start]; omega
    · unfold env0 at e
      rw [List.getElem?_set_ne (Ne.symm hi)] at e
      exact (replicate_none e).elim
  · obtain ⟨s', e⟩ := math sc
    show (m ⟨callN ents n⟩ (env0 N.length) sc).sat _ _
    rw [e]
    intro v H2 o _ _ _ _ r
    cases (show Rp _ _ _ v (.bl true) from r)
    exact hQ H2
end
end Lt

/-! Lt: the draws. -/
namespace Lt
open PySem PySem.Spec PyProof.Rows L2
/-- cells taken from the end until a number of two or more is there -/
def popR : List Int → Int → List Int × Int
  | [], left => ([], left)
  | c :: r, left => if left < 2 then popR r c else (c :: r, left)
def pickG : List D → Src → Res D
  | [.src, .int most], s => if most < 2 then .ok (.int 0) s else if small30 most then
      (let p := popR s.cells.reverse s.left
       if 1 < p.2 then .ok (.int (p.2.fmod most)) { s with cells := p.1.reverse, left := p.2.fdiv most } else
        let lap := s.turn + 1
        let st := (s.mixed + lap * 104729).fmod 998244353
        let st2 := (st * st + lap * 17).fmod 2147483647
        .ok (.int ((st2.fdiv 16).fmod most)) { cells := p.1.reverse, left := p.2, mixed := s.mixed, turn := lap }) else .no
  | _, _ => .no
abbrev cStr (x : Str) : TE := tC (.str x)
abbrev rAddI : R2 := rI0 fun i j => .int (i + j)
abbrev rMulI : R2 := rI CMul fun i j => .int (i * j)
abbrev rDivI : R2 := rI CDivN fun i j => .int (i.fdiv j)
abbrev rModI : R2 := rI (fun _ j => j ≠ 0) fun i j => .int (i.fmod j)
abbrev rInt1 : List V → Hp → VK → Prop := fun xs H Q => (∃ i, xs = [.int i] ∧ Q (.int i) H) ∨ ∃ k, xs = [.bl k] ∧ Q (.int (if k then 1 else 0)) H
abbrev tInt1 (t : TE) : TE := tCB rInt1 (tCons t tNil)
abbrev gKey (x : Str) : TE := tDGet (tVar 0) (cStr x)
def tWhl (K : PySem.W.Frag) : TS := tWhile (L2.tAnd (L2.tB (tLt (gKey "left") (tC (.int 2)))) (L2.tB (tGt (tCB (rLen K) (tCons (tVar 2) tNil)) (tC (.int 0))))) (sDPut (tVar 0) (cStr "left") (tBM0 K "list" rPop (tVar 2)))
def tPick (K : PySem.W.Frag) : TS :=
  tSeq (tIfS (L2.tB (tLt (tVar 1) (tC (.int 2)))) (tRet (tC (.int 0))) tNext)
  (tSeq (L2.tAsg (gKey "cells") (gName 2))
  (tSeq (tWhl K)
  (tSeq (L2.tAsg (gKey "left") (gName 3))
  (tSeq (tIfS (L2.tB (tGt (tVar 3) (tC (.int 1)))) (tSeq (sDPut (tVar 0) (cStr "left") (tOp rDivI (tVar 3) (tVar 1))) (tRet (tOp rModI (tInt1 (tVar 3)) (tVar 1)))) tNext)
  (tSeq (sDPut (tVar 0) (cStr "turn") (tOp rAddI (gKey "turn") (tC (.int 1))))
  (tSeq (L2.tAsg (gKey "turn") (gName 4))
  (tSeq (L2.tAsg (tOp rModI (tInt1 (tOp rAddI (gKey "mixed") (tOp rMulI (tVar 4) (tC (.int 104729))))) (tC (.int 998244353))) (gName 5))
  (tSeq (L2.tAsg (tOp rModI (tInt1 (tOp rAddI (tOp rMulI (tVar 5) (tVar 5)) (tOp rMulI (tVar 4) (tC (.int 17))))) (tC (.int 2147483647))) (gName 5))
  (tRet (tOp rModI (tInt1 (tOp rDivI (tVar 5) (tC (.int 16)))) (tVar 1)))))))))))
def kvs (y : Yx) (s : Src) : List (Key × V) := [(.inr "cells", .ref y.ca), (.inr "left", .int s.left), (.inr "mixed", .int s.mixed), (.inr "turn", .int s.turn)]
section
variable {y : Yx} {H H0 : Hp} {s : Src} {σ : L2.St}
theorem get_of {x : Str} {v : V} (hs : SrcAt y H s) (h0 : σ[0]? = some (some (.ref y.sa))) (e : valV (kvs y s) (.inr x) = some v) {Q : VK} (q : Q v H) : gKey x σ H Q :=
  ⟨_, h0, y.sa, v, rfl, by rw [← e]; exact .inl ⟨kvs y s, .inr x, .inl hs.1, rfl, rfl⟩, q⟩
theorem srcNe (hs : SrcAt y H s) : y.sa ≠ y.ca := by
  intro e
  have h1 := hs.1
  rw [e, hs.2] at h1
  cases h1
/-- a key of the source is set -/
theorem put_of {x : Str} {v : V} {s' : Src} (hs : SrcAt y H s) (e : putK (kvs y s) (.inr x) v = kvs y s') (hc : s'.cells = s.cells) : DPut H y.sa (.str x) v (upd H y.sa (.dK (kvs y s'))) ∧ SrcAt y (upd H y.sa (.dK (kvs y s'))) s' ∧ (Ext y H0 H → Ext y H0 (upd H y.sa (.dK (kvs y s')))) := by
  refine ⟨.inl ⟨kvs y s, .inr x, hs.1, rfl, (show 4 < sizeLine by decide), by rw [e]⟩, ⟨upd_same, ?_⟩, fun x a o n1 n2 e => ?_⟩
  · rw [upd_ne (Ne.symm (srcNe hs)), hc]; exact hs.2
  · rw [upd_ne n1]; exact x a o n1 n2 e
theorem ext_ca (x : Ext y H0 H) (u : HO) : Ext y H0 (upd H y.ca u) := fun a o n1 n2 e => by rw [upd_ne n2]; exact x a o n1 n2 e
theorem popR_len : ∀ (r : List Int) (left : Int), (popR r left).1.length ≤ r.length
  | [], _ => Nat.le_refl _
  | c :: r, left => by
    simp only [popR]
    split
    · exact Nat.le_succ_of_le (popR_len r c)
    · exact Nat.le_refl _
/-- the loop -/
theorem whl_run {K : PySem.W.Frag} {D : Ends} (hs : SrcAt y H s) (x : Ext y H0 H) (h0 : σ[0]? = some (some (.ref y.sa))) (h2 : σ[2]? = some (some (.ref y.ca)))
    (q : ∀ H', Ext y H0 H' → SrcAt y H' { s with cells := (popR s.cells.reverse s.left).1.reverse, left := (popR s.cells.reverse s.left).2 } → D.nx σ H') : tWhl K D σ H := by
  refine ⟨fun n σ' H' => σ' = σ ∧ ∃ s', n = s'.cells.length ∧ SrcAt y H' s' ∧ Ext y H0 H' ∧ ∀ H2, Ext y H0 H2 → SrcAt y H2 { s' with cells := (popR s'.cells.reverse s'.left).1.reverse, left := (popR s'.cells.reverse s'.left).2 } → D.nx σ H2, ⟨_, rfl, s, rfl, hs, x, q⟩, ?_⟩
  rintro n σ' H' ⟨rfl, s', rfl, hs', x', q'⟩
  refine get_of hs' h0 (v := .int s'.left) rfl ?_
  refine ⟨s'.left, 2, rfl, rfl, _, rfl, ?_⟩
  by_cases hl : s'.left < 2
  · dsimp only
    rw [if_pos (decide_eq_true hl)]
    refine ⟨_, h2, .ref y.ca, _, rfl, .inl ⟨_, SqL.of hs'.2, rfl⟩, ((s'.cells.map V.int).length : Nat), 0, rfl, rfl, _, rfl, ?_⟩
    rw [List.length_map]
    rcases List.eq_nil_or_concat s'.cells with e | ⟨cs, c, e⟩
    · have hd : ¬ decide ((((s'.cells.length : Nat) : Int)) > 0) = true := by simp [e]
      dsimp only
      rw [if_neg hd]
      refine q' H' x' ?_
      rw [e]
      simp only [List.reverse_nil, popR]
      rw [show (⟨[], s'.left, s'.mixed, s'.turn⟩ : Src) = s' by cases s'; simp_all]
      exact hs'
    · rw [List.concat_eq_append] at e
      have hd : decide ((((s'.cells.length : Nat) : Int)) > 0) = true := by simp [e]
      dsimp only
      rw [if_pos hd]
      have hlast : (s'.cells.map V.int)[(s'.cells.map V.int).length - 1]? = some (.int c) := by rw [e]; simp
      have hdrop : (s'.cells.map V.int).dropLast = cs.map V.int := by rw [e]; simp
      refine ⟨fun σ2 H2 => σ2 = σ' ∧ ∃ s2, s2.cells.length < s'.cells.length ∧ SrcAt y H2 s2 ∧ Ext y H0 H2 ∧ ∀ H3, Ext y H0 H3 → SrcAt y H3 { s2 with cells := (popR s2.cells.reverse s2.left).1.reverse, left := (popR s2.cells.reverse s2.left).2 } → D.nx σ' H3,
        fun σ2 H2 ⟨e2, s2, w1, w2⟩ => ⟨_, w1, e2, s2, rfl, w2⟩, ?_⟩
      refine ⟨_, h2, .inl ⟨rfl, _, SqL.of hs'.2⟩, y.ca, _, .int c, rfl, rfl, hs'.2, hlast, ?_⟩
      have ne := srcNe hs'
      have hs1 : SrcAt y (upd H' y.ca (.lst (s'.cells.map V.int).dropLast)) { s' with cells := cs } := ⟨by rw [upd_ne ne]; exact hs'.1, by rw [upd_same, hdrop]⟩
      obtain ⟨p1, p2, p3⟩ := put_of (H0 := H0) (x := "left") (v := .int c) (s' := { s' with cells := cs, left := c }) hs1 rfl rfl
      refine ⟨_, h0, y.sa, _, rfl, p1, rfl, { s' with cells := cs, left := c }, by rw [e]; simp, p2, p3 (ext_ca x' _), fun H3 x3 hs3 => q' H3 x3 ?_⟩
      rw [e, List.reverse_append]
      simp only [List.reverse_cons, List.reverse_nil, List.nil_append, List.cons_append, popR, if_pos hl]
      exact hs3
  · dsimp only
    rw [if_neg (show ¬ decide (s'.left < 2) = true by simpa using hl)]
    refine q' H' x' ?_
    have : popR s'.cells.reverse s'.left = (s'.cells.reverse, s'.left) := by
      cases s'.cells.reverse with
      | nil => rfl
      | cons c r => simp only [popR, if_neg hl]
    rw [this, List.reverse_reverse]
    exact hs'
theorem pick_run {K : PySem.W.Frag} {Q : VK} {D : Ends} {most : Int} {N : List Str} {P : Addr → Prop} {E : Exc → Src → Prop} (hN : N.length = 6) (hD : D.rt = Q) (hs : SrcAt y H s) (q : (pickG [.src, .int most] s).sat (Post y 0 P H Q) E) : tPick K D (L2.start N [.ref y.sa, .int most]) H := by
  have st : L2.start N [.ref y.sa, .int most] = [some (.ref y.sa), some (.int most), none, none, none, none] := by simp [L2.start, hN]
  rw [st]
  have give : ∀ {i : Int} {s' : Src} {H' : Hp}, Ext y H H' → SrcAt y H' s' → Post y 0 P H Q (.int i) s' → D.rt (.int i) H' := fun {i s' H'} x hs p => by rw [hD]; exact p.fix (n := 1) x hs (.int i) rfl
  refine ⟨_, rfl, most, 2, rfl, rfl, _, rfl, ?_⟩
  dsimp only
  simp only [pickG] at q
  by_cases h2 : most < 2
  · rw [if_pos h2] at q
    rw [if_pos (decide_eq_true h2)]
    exact give Ext.refl hs q
  · rw [if_neg h2] at q
    rw [if_neg (show ¬ decide (most < 2) = true by simpa using h2)]
    by_cases h30 : small30 most = true
    · rw [if_pos h30] at q
      have hdiv : CDivN (popR s.cells.reverse s.left).2 most := by
        simp only [small30, Bool.and_eq_true, decide_eq_true_eq] at h30
        exact ⟨h30.1, h30.2⟩
      refine get_of (s := s) hs rfl (v := .ref y.ca) rfl ?_
      refine whl_run (H0 := H) hs Ext.refl rfl rfl fun H1 x1 hs1 => ?_
      generalize hp : popR s.cells.reverse s.left = p at q hs1 hdiv
      refine get_of hs1 rfl (v := .int p.2) rfl ?_
      refine ⟨_, rfl, p.2, 1, rfl, rfl, _, rfl, ?_⟩
      dsimp only
      by_cases h1 : 1 < p.2
      · rw [if_pos (show decide (p.2 > 1) = true from decide_eq_true h1)]
        rw [if_pos h1] at q
        obtain ⟨p1, p2, p3⟩ := put_of (H0 := H) (x := "left") (v := .int (p.2.fdiv most)) (s' := { s with cells := p.1.reverse, left := p.2.fdiv most }) hs1 rfl rfl
        refine ⟨_, rfl, _, rfl, p.2, most, rfl, rfl, hdiv, _, rfl, y.sa, _, rfl, p1, _, rfl, .inl ⟨_, rfl, _, rfl, p.2, most, rfl, rfl, hdiv.1, give (p3 x1) p2 q⟩⟩
      · rw [if_neg (show ¬ decide (p.2 > 1) = true by simpa using h1)]
        rw [if_neg h1] at q
        refine get_of hs1 rfl (v := .int s.turn) rfl ?_
        obtain ⟨p1, p2, p3⟩ := put_of (H0 := H) (x := "turn") (v := .int (s.turn + 1)) (s' := { s with cells := p.1.reverse, left := p.2, turn := s.turn + 1 }) hs1 rfl rfl
        refine ⟨s.turn, 1, rfl, rfl, _, rfl, y.sa, _, rfl, p1, ?_⟩
        refine get_of p2 rfl (v := .int (s.turn + 1)) rfl ?_
        refine get_of p2 rfl (v := .int s.mixed) rfl ?_
        have st1 : (s.mixed + (s.turn + 1) * 104729).fmod 998244353 < 998244353 := Int.fmod_lt_of_pos _ (by decide)
        have st0 : 0 ≤ (s.mixed + (s.turn + 1) * 104729).fmod 998244353 := Int.fmod_nonneg_of_pos _ (by decide)
        have e64 : (2 : Int) ^ 64 = 18446744073709551616 := by decide
        refine ⟨_, rfl, s.turn + 1, 104729, rfl, rfl, .inr (by rw [e64]; omega), s.mixed, (s.turn + 1) * 104729, rfl, rfl, .inl ⟨_, rfl, _, 998244353, rfl, rfl, (show (998244353 : Int) ≠ 0 by decide), ?_⟩⟩
        refine ⟨_, rfl, _, rfl, _, _, rfl, rfl, .inl (by rw [e64]; omega), _, rfl, s.turn + 1, 17, rfl, rfl, .inr (by rw [e64]; omega), _, _, rfl, rfl, .inl ⟨_, rfl, _, 2147483647, rfl, rfl, (show (2147483647 : Int) ≠ 0 by decide), ?_⟩⟩
        refine ⟨_, rfl, _, 16, rfl, rfl, ⟨by decide, by decide⟩, .inl ⟨_, rfl, _, rfl, _, most, rfl, rfl, hdiv.1, give (p3 x1) p2 q⟩⟩
    · rw [if_neg h30] at q
      exact q.elim
end
end Lt

/-! Lt: the draws' source, made. -/
namespace Lt
open PySem PySem.Spec PyProof.Rows L2
abbrev cInt (i : Int) : TE := tC (.int i)
abbrev rAbs1 : List V → Hp → VK → Prop := fun xs H Q => ∃ i, xs = [.int i] ∧ Q (.int (if i < 0 then -i else i)) H
def tOpen (K : PySem.W.Frag) : TS :=
  tSeq (L2.tAsg (cInt 11) (gName 1))
  (tSeq (tFor (iSeqA K (tVar 0)) (gName 2) (L2.tAsg (tOp rModI (tInt1 (tOp rAddI (tOp rAddI (tOp rMulI (tVar 1) (cInt 69069)) (tOp rMulI (tVar 2) (cInt 31))) (cInt 5))) (cInt 2147483629)) (gName 1)))
  (tSeq (L2.tAsg (tLc (iSeqA K (tVar 0)) (gName 2) L2.tYes (tCB rAbs1 (tCons (tVar 2) tNil)) [2]) (gName 3))
  (tRet (tDisp [(cStr "cells", tRevL K (tVar 3)), (cStr "left", cInt 1), (cStr "mixed", tVar 1), (cStr "turn", cInt 0)]))))
theorem sql_ex {K : PySem.W.Frag} {H H' : Hp} {a : Addr} {xs : List V} (h : SqL K H a xs) (e : Ex H H') : SqL K H' a xs := by
  rcases h with (h | ⟨o, h⟩) | h
  · exact .inl (.inl (e _ _ h))
  · exact .inl (.inr ⟨o, e _ _ h⟩)
  · exact .inr h
theorem sql_uniq {K : PySem.W.Frag} {H : Hp} {a : Addr} {xs ys : List V} {zs : List Int} (h : SqL K H a xs) : True := trivial
theorem open_run {K : PySem.W.Frag} {vs : List V} {H : Hp} {Q : VK} {E : XK} {D : Ends} {N : List Str} (hN : N.length = 4) (hD : D.rt = Q) (h : spOpen K vs H Q E) : tOpen K D (L2.start N vs) H := by
  obtain ⟨a, zs, rfl, hS, hl, hQ⟩ := h
  have st : L2.start N [.ref a] = [some (.ref a), none, none, none] := by simp [L2.start, hN]
  rw [st]
  refine ⟨.ref a, rfl, a, rfl, .inl ⟨⟨_, hS⟩, ?_⟩⟩
  refine ⟨fun i m σ' H' => H' = H ∧ m = zs.length - i ∧ i ≤ zs.length ∧ ∃ t c, σ' = [some (.ref a), some (.int t), c, none], ⟨_, rfl, rfl, Nat.zero_le _, 11, none, rfl⟩, ?_⟩
  rintro i m σ' H' ⟨rfl, rfl, hi, t, c, rfl⟩
  rcases Nat.lt_or_ge i zs.length with hlt | hge
  · right
    refine ⟨⟨_, .int zs[i], hS, by simp [hlt]⟩, fun σ2 H2 => H2 = H' ∧ ∃ t c, σ2 = [some (.ref a), some (.int t), c, none], fun σ2 H2 ⟨e, w⟩ => ⟨zs.length - (i + 1), by omega, e, rfl, hlt, w⟩, ?_⟩
    rintro x H2 ⟨rfl, hx⟩
    have hx := hx _ hS
    rw [List.getElem?_map, List.getElem?_eq_getElem hlt] at hx
    cases hx
    have e64 : (2 : Int) ^ 64 = 18446744073709551616 := by decide
    refine ⟨_, rfl, t, 69069, rfl, rfl, .inr (by rw [e64]; omega), _, rfl, zs[i], 31, rfl, rfl, .inr (by rw [e64]; omega), _, _, rfl, rfl, _, _, rfl, rfl, .inl ⟨_, rfl, _, 2147483629, rfl, rfl, (show (2147483629 : Int) ≠ 0 by decide), rfl, _, _, rfl⟩⟩
  · left
    refine ⟨⟨_, hS, by rw [List.length_map]; exact hge⟩, .ref a, rfl, a, rfl, .inl ⟨⟨_, hS⟩, fun Dn hDn => ?_⟩⟩
    have ex1 : ∀ u, Ex H' (upd H' Dn u) := fun u => Ex.new hDn
    refine lc_list (xs := zs.map V.int) (fun i Hc => ∃ ns : List Int, Hc = upd H' Dn (.lst (ns.map V.int)) ∧ ns.length ≤ i) ⟨[], rfl, Nat.le_refl _⟩ (fun i Hc _ ⟨ns, e, _⟩ => e ▸ sql_ex hS (ex1 _)) (fun i x Hc hx ⟨ns, e, hn⟩ => ?_) fun Hc ⟨ns, e, hn⟩ => ?_
    · rw [List.getElem?_map] at hx
      obtain ⟨z, hz, rfl⟩ := Option.map_eq_some_iff.mp hx
      have hlt : i < zs.length := by
        rcases Nat.lt_or_ge i zs.length with q | q
        · exact q
        · rw [List.getElem?_eq_none q] at hz; cases hz
      refine ⟨rfl, _, rfl, z, rfl, ns.map V.int, by rw [e]; exact upd_same, ?_, ns ++ [if z < 0 then -z else z], ?_, by simp; omega⟩
      · rw [List.length_map, sizeLine_eq]; omega
      · rw [e]
        funext b
        by_cases hb : b = Dn
        · subst hb; simp [upd_same]
        · simp [upd_ne hb]
    · subst e
      have exn : Ex H' (upd H' Dn (.lst (ns.map V.int))) := ex1 _
      intro p hp
      have npD : p ≠ Dn := by rintro rfl; rw [upd_same] at hp; cases hp
      have hpH : H' p = none := by rw [upd_ne npD] at hp; exact hp
      refine ⟨_, rfl, Dn, ns.map V.int, rfl, .inl (.inl (by rw [upd_ne (Ne.symm npD)]; exact upd_same)), fun p2 hp2 => ?_⟩
      have n2p : p2 ≠ p := by rintro rfl; rw [upd_same] at hp2; cases hp2
      have n2D : p2 ≠ Dn := by rintro rfl; rw [upd_ne (Ne.symm npD), upd_same] at hp2; cases hp2
      have hp2H : H' p2 = none := by rw [upd_ne n2p, upd_ne n2D] at hp2; exact hp2
      refine ⟨.int t, rfl, ?_⟩
      refine ⟨by rw [upd_ne (Ne.symm n2p)]; exact upd_same, [(.inr "cells", .ref p2), (.inr "left", .int 1), (.inr "mixed", .int t), (.inr "turn", .int 0)], rfl, (show 4 ≤ 15 by decide), ?_⟩
      rw [hD]
      refine hQ ⟨p, p2, ⟨fun _ _ _ => .no⟩, fun _ _ _ _ => False⟩ _ ⟨ns.reverse, 1, t, 0⟩ ?_ hpH hp2H ⟨by rw [upd_same]; rfl, by rw [upd_ne n2p, upd_same, List.map_reverse]⟩
      intro b u e
      rw [upd_ne (ne_of_none e hpH), upd_ne (ne_of_none e hp2H), upd_ne (ne_of_none e hpH), upd_ne (ne_of_none e hDn)]
      exact e
end Lt

/-! Lt: plain laws of the layer's terms. -/
namespace Lt
open PySem PySem.Spec PyProof.Rows L2
/-! the terms, held together -/
@[irreducible] def xsPass := @Lt.sPass
theorem xsPass_ : @xsPass = @Lt.sPass := by unfold xsPass; rfl
@[irreducible] def xsSeq := @Lt.sSeq
theorem xsSeq_ : @xsSeq = @Lt.sSeq := by unfold xsSeq; rfl
@[irreducible] def xsRet := @Lt.sRet
theorem xsRet_ : @xsRet = @Lt.sRet := by unfold xsRet; rfl
@[irreducible] def xsAsg := @Lt.sAsg
theorem xsAsg_ : @xsAsg = @Lt.sAsg := by unfold xsAsg; rfl
@[irreducible] def xsPar := @Lt.sPar
theorem xsPar_ : @xsPar = @Lt.sPar := by unfold xsPar; rfl
@[irreducible] def xsIf := @Lt.sIf
theorem xsIf_ : @xsIf = @Lt.sIf := by unfold xsIf; rfl
@[irreducible] def xsFor := @Lt.sFor
theorem xsFor_ : @xsFor = @Lt.sFor := by unfold xsFor; rfl
@[irreducible] def xsAug2 := @Lt.sAug2
theorem xsAug2_ : @xsAug2 = @Lt.sAug2 := by unfold xsAug2; rfl
@[irreducible] def xsPut := @Lt.sPut
theorem xsPut_ : @xsPut = @Lt.sPut := by unfold xsPut; rfl
@[irreducible] def xeVar := @Lt.eVar
theorem xeVar_ : @xeVar = @Lt.eVar := by unfold xeVar; rfl
@[irreducible] def xeC := @Lt.eC
theorem xeC_ : @xeC = @Lt.eC := by unfold xeC; rfl
@[irreducible] def xeBin := @Lt.eBin
theorem xeBin_ : @xeBin = @Lt.eBin := by unfold xeBin; rfl
@[irreducible] def xeNeg := @Lt.eNeg
theorem xeNeg_ : @xeNeg = @Lt.eNeg := by unfold xeNeg; rfl
@[irreducible] def xeCmp := @Lt.eCmp
theorem xeCmp_ : @xeCmp = @Lt.eCmp := by unfold xeCmp; rfl
@[irreducible] def xeIf := @Lt.eIf
theorem xeIf_ : @xeIf = @Lt.eIf := by unfold xeIf; rfl
@[irreducible] def xeNot := @Lt.eNot
theorem xeNot_ : @xeNot = @Lt.eNot := by unfold xeNot; rfl
@[irreducible] def xeNil := @Lt.eNil
theorem xeNil_ : @xeNil = @Lt.eNil := by unfold xeNil; rfl
@[irreducible] def xeCons := @Lt.eCons
theorem xeCons_ : @xeCons = @Lt.eCons := by unfold xeCons; rfl
@[irreducible] def xeTup := @Lt.eTup
theorem xeTup_ : @xeTup = @Lt.eTup := by unfold xeTup; rfl
@[irreducible] def xeLst := @Lt.eLst
theorem xeLst_ : @xeLst = @Lt.eLst := by unfold xeLst; rfl
@[irreducible] def xeDct := @Lt.eDct
theorem xeDct_ : @xeDct = @Lt.eDct := by unfold xeDct; rfl
@[irreducible] def xeIdx := @Lt.eIdx
theorem xeIdx_ : @xeIdx = @Lt.eIdx := by unfold xeIdx; rfl
@[irreducible] def xeCall := @Lt.eCall
theorem xeCall_ : @xeCall = @Lt.eCall := by unfold xeCall; rfl
@[irreducible] def xeBi := @Lt.eBi
theorem xeBi_ : @xeBi = @Lt.eBi := by unfold xeBi; rfl
@[irreducible] def xeCnt := @Lt.eCnt
theorem xeCnt_ : @xeCnt = @Lt.eCnt := by unfold xeCnt; rfl
@[irreducible] def xeLc := @Lt.eLc
theorem xeLc_ : @xeLc = @Lt.eLc := by unfold xeLc; rfl
@[irreducible] def xiSeq := @Lt.iSeq
theorem xiSeq_ : @xiSeq = @Lt.iSeq := by unfold xiSeq; rfl
@[irreducible] def xiRange1 := @Lt.iRange1
theorem xiRange1_ : @xiRange1 = @Lt.iRange1 := by unfold xiRange1; rfl
@[irreducible] def xiEnum := @Lt.iEnum
theorem xiEnum_ : @xiEnum = @Lt.iEnum := by unfold xiEnum; rfl
@[irreducible] def xiZip := @Lt.iZip
theorem xiZip_ : @xiZip = @Lt.iZip := by unfold xiZip; rfl
@[irreducible] def xtCmp := @Lt.tCmp
theorem xtCmp_ : @xtCmp = @Lt.tCmp := by unfold xtCmp; rfl
@[irreducible] def xtTru := @Lt.tTru
theorem xtTru_ : @xtTru = @Lt.tTru := by unfold xtTru; rfl
@[irreducible] def xtNot := @Lt.tNot
theorem xtNot_ : @xtNot = @Lt.tNot := by unfold xtNot; rfl
@[irreducible] def xtAnd := @Lt.tAnd
theorem xtAnd_ : @xtAnd = @Lt.tAnd := by unfold xtAnd; rfl
@[irreducible] def xtOr := @Lt.tOr
theorem xtOr_ : @xtOr = @Lt.tOr := by unfold xtOr; rfl
section
variable {R : Rd} {p : Pat} {t : TM} {e : EM} {env : Env}
theorem lc_filter (b : D → Bool) (f : D → D) {s : Src} : ∀ {ds : List D}, (∀ d ∈ ds, ∃ env', p.set d env = some env' ∧ t R env' s = .ok (b d) s ∧ (b d = true → e R env' s = .ok (f d) s)) → lcGo R env p t e ds s = .ok ((ds.filter b).map f) s
  | [], _ => rfl
  | d :: ds, h => by
    obtain ⟨env', h1, h2, h3⟩ := h d (by simp)
    have ih := lc_filter b f (ds := ds) fun x hx => h x (by simp [hx])
    simp only [lcGo, h1, h2, Res.nox, Res.bind]
    cases hb : b d with
    | false => simp [hb, ih]
    | true => simp [hb, ih, h3 hb, Res.nox, Res.bind]
theorem lc_map (f : D → D) {s : Src} {ds : List D} (h : ∀ d ∈ ds, ∃ env', p.set d env = some env' ∧ t R env' s = .ok true s ∧ e R env' s = .ok (f d) s) : lcGo R env p t e ds s = .ok (ds.map f) s := by
  have := lc_filter (R := R) (p := p) (t := t) (e := e) (env := env) (fun _ => true) f (s := s) (ds := ds) fun d hd => let ⟨e', h1, h2, h3⟩ := h d hd; ⟨e', h1, h2, fun _ => h3⟩
  have e : ds.filter (fun _ => true) = ds := by simp
  rw [this, e]
theorem lc_ex (Pd : D → Prop) : ∀ {ds : List D} (s : Src), (∀ d ∈ ds, ∀ s, ∃ env', p.set d env = some env' ∧ t R env' s = .ok true s ∧ ∃ v s', e R env' s = .ok v s' ∧ Pd v) → ∃ vs s', lcGo R env p t e ds s = .ok vs s' ∧ vs.length = ds.length ∧ ∀ v ∈ vs, Pd v
  | [], s, _ => ⟨[], s, rfl, rfl, by simp⟩
  | d :: ds, s, h => by
    obtain ⟨env', h1, h2, v, s1, h3, h4⟩ := h d (by simp) s
    obtain ⟨vs, s2, i1, i2, i3⟩ := lc_ex Pd (ds := ds) s1 fun x hx => h x (by simp [hx])
    refine ⟨v :: vs, s2, ?_, by simp [i2], by simp [h4, i3]; exact i3⟩
    simp [lcGo, h1, h2, h3, Res.nox, Res.bind, i1]
theorem lc_filtA {α : Type} (g : α → D) (b : α → Bool) (f : α → D) {s : Src} : ∀ {l : List α}, (∀ a ∈ l, ∃ env', p.set (g a) env = some env' ∧ t R env' s = .ok (b a) s ∧ (b a = true → e R env' s = .ok (f a) s)) → lcGo R env p t e (l.map g) s = .ok ((l.filter b).map f) s
  | [], _ => rfl
  | d :: ds, h => by
    obtain ⟨env', h1, h2, h3⟩ := h d (by simp)
    have ih := lc_filtA g b f (l := ds) fun x hx => h x (by simp [hx])
    simp only [List.map_cons, lcGo, h1, h2, Res.nox, Res.bind]
    cases hb : b d with
    | false => simp [hb, ih]
    | true => simp [hb, ih, h3 hb, Res.nox, Res.bind]
theorem lc_mapA {α : Type} (g : α → D) (f : α → D) {s : Src} {l : List α} (h : ∀ a ∈ l, ∃ env', p.set (g a) env = some env' ∧ t R env' s = .ok true s ∧ e R env' s = .ok (f a) s) : lcGo R env p t e (l.map g) s = .ok (l.map f) s := by
  have := lc_filtA (R := R) (p := p) (t := t) (e := e) (env := env) g (fun _ => true) f (s := s) (l := l) fun d hd => let ⟨e', h1, h2, h3⟩ := h d hd; ⟨e', h1, h2, fun _ => h3⟩
  have e : l.filter (fun _ => true) = l := by simp
  rw [this, e]
theorem for_inv {b : SM} (I : Nat → Lt.Env → Src → Prop) (Q : D → Src → Prop) : ∀ {ds : List D} (k : Nat) {env : Lt.Env} {s : Src}, I k env s → (∀ i d, ds[i]? = some d → ∀ env s, I (k + i) env s → ∃ env1, p.set d env = some env1 ∧ ∃ o s', b R env1 s = .ok o s' ∧ ((∃ env2, o = .nx env2 ∧ I (k + i + 1) env2 s') ∨ ∃ d, o = .rt d ∧ Q d s')) →
    ∃ o s', forGo R p b ds env s = .ok o s' ∧ ((∃ env2, o = .nx env2 ∧ I (k + ds.length) env2 s') ∨ ∃ d, o = .rt d ∧ Q d s')
  | [], k, env, s, hi, _ => ⟨_, s, rfl, .inl ⟨env, rfl, hi⟩⟩
  | d :: ds, k, env, s, hi, h => by
    obtain ⟨env1, h1, o, s1, h2, h3⟩ := h 0 d (by simp) env s hi
    rcases h3 with ⟨env2, rfl, h3⟩ | ⟨d', rfl, h3⟩
    · obtain ⟨o, s2, h4, h5⟩ := for_inv I Q (ds := ds) (k + 1) (env := env2) (s := s1) h3 fun i x hx env s hi => by
        have e : k + 1 + i = k + (i + 1) := by omega
        rw [e] at hi ⊢
        exact h (i + 1) x (by simpa using hx) env s hi
      refine ⟨o, s2, by simp [forGo, h1, h2, Res.bind, h4], ?_⟩
      have e : k + 1 + ds.length = k + (d :: ds).length := by simp; omega
      rw [e] at h5
      exact h5
    · exact ⟨_, s1, by simp [forGo, h1, h2, Res.bind], .inr ⟨d', rfl, h3⟩⟩
end
/-! the terms' values, rule by rule -/
section
variable {R : Rd} {env env1 env2 env' : Lt.Env} {s s1 s2 s3 : Src} {a b c : EM} {l r : LM} {ta tb tc : TM} {x y z w : D} {xs ys zs : List D} {op op' : Operator} {cop cop' : CmpOp} {f i : Nat} {k k' : Bool} {hs own : List Nat} {p : Pat} {A B : SM} {o : Out} {g : Bi} {n m : Int}
theorem ev_var (h : env[i]? = some (some x)) : xeVar i R env s = .ok x s := by simp [xsPass_, xsSeq_, xsRet_, xsAsg_, xsPar_, xsIf_, xsFor_, xsAug2_, xsPut_, xeVar_, xeC_, xeBin_, xeNeg_, xeCmp_, xeIf_, xeNot_, xeNil_, xeCons_, xeTup_, xeLst_, xeDct_, xeIdx_, xeCall_, xeBi_, xeCnt_, xeLc_, xiSeq_, xiRange1_, xiEnum_, xiZip_, xtCmp_, xtTru_, xtNot_, xtAnd_, xtOr_, eVar, h]
theorem ev_c : xeC x R env s = .ok x s := by rw [xeC_]; rfl
theorem ev_bin (h1 : a R env s = .ok x s1) (h2 : b R env s1 = .ok y s2) (h3 : dBin op x y = some z) : xeBin op a b R env s = .ok z s2 := by simp [xsPass_, xsSeq_, xsRet_, xsAsg_, xsPar_, xsIf_, xsFor_, xsAug2_, xsPut_, xeVar_, xeC_, xeBin_, xeNeg_, xeCmp_, xeIf_, xeNot_, xeNil_, xeCons_, xeTup_, xeLst_, xeDct_, xeIdx_, xeCall_, xeBi_, xeCnt_, xeLc_, xiSeq_, xiRange1_, xiEnum_, xiZip_, xtCmp_, xtTru_, xtNot_, xtAnd_, xtOr_, eBin, h1, h2, h3, Res.bind, ofO]
theorem ev_neg (h1 : a R env s = .ok x s1) (h3 : dNeg x = some z) : xeNeg a R env s = .ok z s1 := by simp [xsPass_, xsSeq_, xsRet_, xsAsg_, xsPar_, xsIf_, xsFor_, xsAug2_, xsPut_, xeVar_, xeC_, xeBin_, xeNeg_, xeCmp_, xeIf_, xeNot_, xeNil_, xeCons_, xeTup_, xeLst_, xeDct_, xeIdx_, xeCall_, xeBi_, xeCnt_, xeLc_, xiSeq_, xiRange1_, xiEnum_, xiZip_, xtCmp_, xtTru_, xtNot_, xtAnd_, xtOr_, eNeg, h1, h3, Res.bind, ofO]
theorem ev_cmp (h1 : a R env s = .ok x s1) (h2 : b R env s1 = .ok y s2) (h3 : dCmp cop x y = some k) : xeCmp cop a b R env s = .ok (.bl k) s2 := by simp [xsPass_, xsSeq_, xsRet_, xsAsg_, xsPar_, xsIf_, xsFor_, xsAug2_, xsPut_, xeVar_, xeC_, xeBin_, xeNeg_, xeCmp_, xeIf_, xeNot_, xeNil_, xeCons_, xeTup_, xeLst_, xeDct_, xeIdx_, xeCall_, xeBi_, xeCnt_, xeLc_, xiSeq_, xiRange1_, xiEnum_, xiZip_, xtCmp_, xtTru_, xtNot_, xtAnd_, xtOr_, eCmp, h1, h2, h3, Res.bind, ofO]
theorem ev_not (h1 : a R env s = .ok x s1) (h3 : dTruth x = some k) : xeNot a R env s = .ok (.bl (!k)) s1 := by simp [xsPass_, xsSeq_, xsRet_, xsAsg_, xsPar_, xsIf_, xsFor_, xsAug2_, xsPut_, xeVar_, xeC_, xeBin_, xeNeg_, xeCmp_, xeIf_, xeNot_, xeNil_, xeCons_, xeTup_, xeLst_, xeDct_, xeIdx_, xeCall_, xeBi_, xeCnt_, xeLc_, xiSeq_, xiRange1_, xiEnum_, xiZip_, xtCmp_, xtTru_, xtNot_, xtAnd_, xtOr_, eNot, h1, h3, Res.bind, ofO]
theorem ev_ift (h : ta R env s = .ok true s1) (h1 : a R env s1 = .ok x s2) : xeIf ta a b R env s = .ok x s2 := by simp [xsPass_, xsSeq_, xsRet_, xsAsg_, xsPar_, xsIf_, xsFor_, xsAug2_, xsPut_, xeVar_, xeC_, xeBin_, xeNeg_, xeCmp_, xeIf_, xeNot_, xeNil_, xeCons_, xeTup_, xeLst_, xeDct_, xeIdx_, xeCall_, xeBi_, xeCnt_, xeLc_, xiSeq_, xiRange1_, xiEnum_, xiZip_, xtCmp_, xtTru_, xtNot_, xtAnd_, xtOr_, eIf, h, h1, Res.bind]
theorem ev_iff (h : ta R env s = .ok false s1) (h1 : b R env s1 = .ok x s2) : xeIf ta a b R env s = .ok x s2 := by simp [xsPass_, xsSeq_, xsRet_, xsAsg_, xsPar_, xsIf_, xsFor_, xsAug2_, xsPut_, xeVar_, xeC_, xeBin_, xeNeg_, xeCmp_, xeIf_, xeNot_, xeNil_, xeCons_, xeTup_, xeLst_, xeDct_, xeIdx_, xeCall_, xeBi_, xeCnt_, xeLc_, xiSeq_, xiRange1_, xiEnum_, xiZip_, xtCmp_, xtTru_, xtNot_, xtAnd_, xtOr_, eIf, h, h1, Res.bind]
theorem ev_nil : xeNil R env s = .ok [] s := by rw [xeNil_]; rfl
theorem ev_cons (h1 : a R env s = .ok x s1) (h2 : l R env s1 = .ok xs s2) : xeCons a l R env s = .ok (x :: xs) s2 := by simp [xsPass_, xsSeq_, xsRet_, xsAsg_, xsPar_, xsIf_, xsFor_, xsAug2_, xsPut_, xeVar_, xeC_, xeBin_, xeNeg_, xeCmp_, xeIf_, xeNot_, xeNil_, xeCons_, xeTup_, xeLst_, xeDct_, xeIdx_, xeCall_, xeBi_, xeCnt_, xeLc_, xiSeq_, xiRange1_, xiEnum_, xiZip_, xtCmp_, xtTru_, xtNot_, xtAnd_, xtOr_, eCons, h1, h2, Res.bind]
theorem ev_tup (h : l R env s = .ok xs s1) : xeTup l R env s = .ok (.tup xs) s1 := by simp [xsPass_, xsSeq_, xsRet_, xsAsg_, xsPar_, xsIf_, xsFor_, xsAug2_, xsPut_, xeVar_, xeC_, xeBin_, xeNeg_, xeCmp_, xeIf_, xeNot_, xeNil_, xeCons_, xeTup_, xeLst_, xeDct_, xeIdx_, xeCall_, xeBi_, xeCnt_, xeLc_, xiSeq_, xiRange1_, xiEnum_, xiZip_, xtCmp_, xtTru_, xtNot_, xtAnd_, xtOr_, eTup, h, Res.bind]
theorem ev_lst (h : l R env s = .ok xs s1) : xeLst l R env s = .ok (.lst xs) s1 := by simp [xsPass_, xsSeq_, xsRet_, xsAsg_, xsPar_, xsIf_, xsFor_, xsAug2_, xsPut_, xeVar_, xeC_, xeBin_, xeNeg_, xeCmp_, xeIf_, xeNot_, xeNil_, xeCons_, xeTup_, xeLst_, xeDct_, xeIdx_, xeCall_, xeBi_, xeCnt_, xeLc_, xiSeq_, xiRange1_, xiEnum_, xiZip_, xtCmp_, xtTru_, xtNot_, xtAnd_, xtOr_, eLst, h, Res.bind]
theorem ev_dct {t : Bool} : xeDct t R env s = .ok (.dct t []) s := by rw [xeDct_]; rfl
theorem ev_idx (h1 : a R env s = .ok x s1) (h2 : b R env s1 = .ok y s2) (h3 : dIdx x y = some z) : xeIdx a b R env s = .ok z s2 := by simp [xsPass_, xsSeq_, xsRet_, xsAsg_, xsPar_, xsIf_, xsFor_, xsAug2_, xsPut_, xeVar_, xeC_, xeBin_, xeNeg_, xeCmp_, xeIf_, xeNot_, xeNil_, xeCons_, xeTup_, xeLst_, xeDct_, xeIdx_, xeCall_, xeBi_, xeCnt_, xeLc_, xiSeq_, xiRange1_, xiEnum_, xiZip_, xtCmp_, xtTru_, xtNot_, xtAnd_, xtOr_, eIdx, h1, h2, h3, Res.bind, ofO]
theorem ev_call (h : l R env s = .ok xs s1) (h2 : R.cl f xs s1 = .ok y s2) : xeCall f l R env s = .ok y s2 := by simp [xsPass_, xsSeq_, xsRet_, xsAsg_, xsPar_, xsIf_, xsFor_, xsAug2_, xsPut_, xeVar_, xeC_, xeBin_, xeNeg_, xeCmp_, xeIf_, xeNot_, xeNil_, xeCons_, xeTup_, xeLst_, xeDct_, xeIdx_, xeCall_, xeBi_, xeCnt_, xeLc_, xiSeq_, xiRange1_, xiEnum_, xiZip_, xtCmp_, xtTru_, xtNot_, xtAnd_, xtOr_, eCall, h, h2, Res.bind]
theorem ev_bi (h : l R env s = .ok xs s1) (h2 : g xs = some y) : xeBi g l R env s = .ok y s1 := by simp [xsPass_, xsSeq_, xsRet_, xsAsg_, xsPar_, xsIf_, xsFor_, xsAug2_, xsPut_, xeVar_, xeC_, xeBin_, xeNeg_, xeCmp_, xeIf_, xeNot_, xeNil_, xeCons_, xeTup_, xeLst_, xeDct_, xeIdx_, xeCall_, xeBi_, xeCnt_, xeLc_, xiSeq_, xiRange1_, xiEnum_, xiZip_, xtCmp_, xtTru_, xtNot_, xtAnd_, xtOr_, eBi, h, h2, Res.bind, ofO]
theorem ev_cnt (h1 : a R env s = .ok (.lst xs) s1) (h2 : b R env s1 = .ok y s2) (h3 : bCount [.lst xs, y] = some z) : xeCnt a b R env s = .ok z s2 := by simp [xsPass_, xsSeq_, xsRet_, xsAsg_, xsPar_, xsIf_, xsFor_, xsAug2_, xsPut_, xeVar_, xeC_, xeBin_, xeNeg_, xeCmp_, xeIf_, xeNot_, xeNil_, xeCons_, xeTup_, xeLst_, xeDct_, xeIdx_, xeCall_, xeBi_, xeCnt_, xeLc_, xiSeq_, xiRange1_, xiEnum_, xiZip_, xtCmp_, xtTru_, xtNot_, xtAnd_, xtOr_, eCnt, h1, h2, h3, Res.bind, ofO]
theorem ev_lc {e : EM} (h : l R env s = .ok xs s1) (h2 : lcGo R (wipeE env own) p ta e xs s1 = .ok ys s2) : xeLc own l p ta e R env s = .ok (.lst ys) s2 := by simp [xsPass_, xsSeq_, xsRet_, xsAsg_, xsPar_, xsIf_, xsFor_, xsAug2_, xsPut_, xeVar_, xeC_, xeBin_, xeNeg_, xeCmp_, xeIf_, xeNot_, xeNil_, xeCons_, xeTup_, xeLst_, xeDct_, xeIdx_, xeCall_, xeBi_, xeCnt_, xeLc_, xiSeq_, xiRange1_, xiEnum_, xiZip_, xtCmp_, xtTru_, xtNot_, xtAnd_, xtOr_, eLc, h, h2, Res.bind]
theorem ev_seq (h : a R env s = .ok x s1) (h2 : x.items = some xs) : xiSeq a R env s = .ok xs s1 := by simp [xsPass_, xsSeq_, xsRet_, xsAsg_, xsPar_, xsIf_, xsFor_, xsAug2_, xsPut_, xeVar_, xeC_, xeBin_, xeNeg_, xeCmp_, xeIf_, xeNot_, xeNil_, xeCons_, xeTup_, xeLst_, xeDct_, xeIdx_, xeCall_, xeBi_, xeCnt_, xeLc_, xiSeq_, xiRange1_, xiEnum_, xiZip_, xtCmp_, xtTru_, xtNot_, xtAnd_, xtOr_, iSeq, h, h2, Res.bind, ofO]
theorem ev_range (h : a R env s = .ok (.int n) s1) (h2 : okR n = true) : xiRange1 a R env s = .ok (rangeL 0 n) s1 := by simp [xsPass_, xsSeq_, xsRet_, xsAsg_, xsPar_, xsIf_, xsFor_, xsAug2_, xsPut_, xeVar_, xeC_, xeBin_, xeNeg_, xeCmp_, xeIf_, xeNot_, xeNil_, xeCons_, xeTup_, xeLst_, xeDct_, xeIdx_, xeCall_, xeBi_, xeCnt_, xeLc_, xiSeq_, xiRange1_, xiEnum_, xiZip_, xtCmp_, xtTru_, xtNot_, xtAnd_, xtOr_, iRange1, h, h2, Res.bind]
theorem ev_enum (h : a R env s = .ok x s1) (h2 : x.items = some xs) : xiEnum a R env s = .ok (enumL xs) s1 := by simp [xsPass_, xsSeq_, xsRet_, xsAsg_, xsPar_, xsIf_, xsFor_, xsAug2_, xsPut_, xeVar_, xeC_, xeBin_, xeNeg_, xeCmp_, xeIf_, xeNot_, xeNil_, xeCons_, xeTup_, xeLst_, xeDct_, xeIdx_, xeCall_, xeBi_, xeCnt_, xeLc_, xiSeq_, xiRange1_, xiEnum_, xiZip_, xtCmp_, xtTru_, xtNot_, xtAnd_, xtOr_, iEnum, h, h2, Res.bind, ofO]
theorem ev_zipT (h : a R env s = .ok (.tup xs) s1) (h2 : b R env s1 = .ok (.tup ys) s2) : xiZip a b R env s = .ok (zipL xs ys) s2 := by simp [xsPass_, xsSeq_, xsRet_, xsAsg_, xsPar_, xsIf_, xsFor_, xsAug2_, xsPut_, xeVar_, xeC_, xeBin_, xeNeg_, xeCmp_, xeIf_, xeNot_, xeNil_, xeCons_, xeTup_, xeLst_, xeDct_, xeIdx_, xeCall_, xeBi_, xeCnt_, xeLc_, xiSeq_, xiRange1_, xiEnum_, xiZip_, xtCmp_, xtTru_, xtNot_, xtAnd_, xtOr_, iZip, h, h2, Res.bind]
theorem ev_zipL (h : a R env s = .ok (.lst xs) s1) (h2 : b R env s1 = .ok (.lst ys) s2) : xiZip a b R env s = .ok (zipL xs ys) s2 := by simp [xsPass_, xsSeq_, xsRet_, xsAsg_, xsPar_, xsIf_, xsFor_, xsAug2_, xsPut_, xeVar_, xeC_, xeBin_, xeNeg_, xeCmp_, xeIf_, xeNot_, xeNil_, xeCons_, xeTup_, xeLst_, xeDct_, xeIdx_, xeCall_, xeBi_, xeCnt_, xeLc_, xiSeq_, xiRange1_, xiEnum_, xiZip_, xtCmp_, xtTru_, xtNot_, xtAnd_, xtOr_, iZip, h, h2, Res.bind]
theorem et_cmp (h1 : a R env s = .ok x s1) (h2 : b R env s1 = .ok y s2) (h3 : dCmp cop x y = some k) : xtCmp cop a b R env s = .ok k s2 := by simp [xsPass_, xsSeq_, xsRet_, xsAsg_, xsPar_, xsIf_, xsFor_, xsAug2_, xsPut_, xeVar_, xeC_, xeBin_, xeNeg_, xeCmp_, xeIf_, xeNot_, xeNil_, xeCons_, xeTup_, xeLst_, xeDct_, xeIdx_, xeCall_, xeBi_, xeCnt_, xeLc_, xiSeq_, xiRange1_, xiEnum_, xiZip_, xtCmp_, xtTru_, xtNot_, xtAnd_, xtOr_, tCmp, h1, h2, h3, Res.bind, ofO]
theorem et_tru (h1 : a R env s = .ok x s1) (h3 : dTruth x = some k) : xtTru a R env s = .ok k s1 := by simp [xsPass_, xsSeq_, xsRet_, xsAsg_, xsPar_, xsIf_, xsFor_, xsAug2_, xsPut_, xeVar_, xeC_, xeBin_, xeNeg_, xeCmp_, xeIf_, xeNot_, xeNil_, xeCons_, xeTup_, xeLst_, xeDct_, xeIdx_, xeCall_, xeBi_, xeCnt_, xeLc_, xiSeq_, xiRange1_, xiEnum_, xiZip_, xtCmp_, xtTru_, xtNot_, xtAnd_, xtOr_, tTru, h1, h3, Res.bind, ofO]
theorem et_not (h : ta R env s = .ok k s1) : xtNot ta R env s = .ok (!k) s1 := by simp [xsPass_, xsSeq_, xsRet_, xsAsg_, xsPar_, xsIf_, xsFor_, xsAug2_, xsPut_, xeVar_, xeC_, xeBin_, xeNeg_, xeCmp_, xeIf_, xeNot_, xeNil_, xeCons_, xeTup_, xeLst_, xeDct_, xeIdx_, xeCall_, xeBi_, xeCnt_, xeLc_, xiSeq_, xiRange1_, xiEnum_, xiZip_, xtCmp_, xtTru_, xtNot_, xtAnd_, xtOr_, Lt.tNot, h, Res.bind]
theorem et_andt (h : ta R env s = .ok true s1) (h2 : tb R env s1 = .ok k s2) : xtAnd ta tb R env s = .ok k s2 := by simp [xsPass_, xsSeq_, xsRet_, xsAsg_, xsPar_, xsIf_, xsFor_, xsAug2_, xsPut_, xeVar_, xeC_, xeBin_, xeNeg_, xeCmp_, xeIf_, xeNot_, xeNil_, xeCons_, xeTup_, xeLst_, xeDct_, xeIdx_, xeCall_, xeBi_, xeCnt_, xeLc_, xiSeq_, xiRange1_, xiEnum_, xiZip_, xtCmp_, xtTru_, xtNot_, xtAnd_, xtOr_, Lt.tAnd, h, h2, Res.bind]
theorem et_andf (h : ta R env s = .ok false s1) : xtAnd ta tb R env s = .ok false s1 := by simp [xsPass_, xsSeq_, xsRet_, xsAsg_, xsPar_, xsIf_, xsFor_, xsAug2_, xsPut_, xeVar_, xeC_, xeBin_, xeNeg_, xeCmp_, xeIf_, xeNot_, xeNil_, xeCons_, xeTup_, xeLst_, xeDct_, xeIdx_, xeCall_, xeBi_, xeCnt_, xeLc_, xiSeq_, xiRange1_, xiEnum_, xiZip_, xtCmp_, xtTru_, xtNot_, xtAnd_, xtOr_, Lt.tAnd, h, Res.bind]
theorem et_ort (h : ta R env s = .ok true s1) : xtOr ta tb R env s = .ok true s1 := by simp [xsPass_, xsSeq_, xsRet_, xsAsg_, xsPar_, xsIf_, xsFor_, xsAug2_, xsPut_, xeVar_, xeC_, xeBin_, xeNeg_, xeCmp_, xeIf_, xeNot_, xeNil_, xeCons_, xeTup_, xeLst_, xeDct_, xeIdx_, xeCall_, xeBi_, xeCnt_, xeLc_, xiSeq_, xiRange1_, xiEnum_, xiZip_, xtCmp_, xtTru_, xtNot_, xtAnd_, xtOr_, Lt.tOr, h, Res.bind]
theorem et_orf (h : ta R env s = .ok false s1) (h2 : tb R env s1 = .ok k s2) : xtOr ta tb R env s = .ok k s2 := by simp [xsPass_, xsSeq_, xsRet_, xsAsg_, xsPar_, xsIf_, xsFor_, xsAug2_, xsPut_, xeVar_, xeC_, xeBin_, xeNeg_, xeCmp_, xeIf_, xeNot_, xeNil_, xeCons_, xeTup_, xeLst_, xeDct_, xeIdx_, xeCall_, xeBi_, xeCnt_, xeLc_, xiSeq_, xiRange1_, xiEnum_, xiZip_, xtCmp_, xtTru_, xtNot_, xtAnd_, xtOr_, Lt.tOr, h, h2, Res.bind]
theorem es_seq (h : A R env s = .ok (.nx env1) s1) (h2 : B R env1 s1 = .ok o s2) : xsSeq A B R env s = .ok o s2 := by simp [xsPass_, xsSeq_, xsRet_, xsAsg_, xsPar_, xsIf_, xsFor_, xsAug2_, xsPut_, xeVar_, xeC_, xeBin_, xeNeg_, xeCmp_, xeIf_, xeNot_, xeNil_, xeCons_, xeTup_, xeLst_, xeDct_, xeIdx_, xeCall_, xeBi_, xeCnt_, xeLc_, xiSeq_, xiRange1_, xiEnum_, xiZip_, xtCmp_, xtTru_, xtNot_, xtAnd_, xtOr_, sSeq, h, h2, Res.bind]
theorem es_seqR (h : A R env s = .ok (.rt x) s1) : xsSeq A B R env s = .ok (.rt x) s1 := by simp [xsPass_, xsSeq_, xsRet_, xsAsg_, xsPar_, xsIf_, xsFor_, xsAug2_, xsPut_, xeVar_, xeC_, xeBin_, xeNeg_, xeCmp_, xeIf_, xeNot_, xeNil_, xeCons_, xeTup_, xeLst_, xeDct_, xeIdx_, xeCall_, xeBi_, xeCnt_, xeLc_, xiSeq_, xiRange1_, xiEnum_, xiZip_, xtCmp_, xtTru_, xtNot_, xtAnd_, xtOr_, sSeq, h, Res.bind]
theorem es_ret (h : a R env s = .ok x s1) : xsRet a R env s = .ok (.rt x) s1 := by simp [xsPass_, xsSeq_, xsRet_, xsAsg_, xsPar_, xsIf_, xsFor_, xsAug2_, xsPut_, xeVar_, xeC_, xeBin_, xeNeg_, xeCmp_, xeIf_, xeNot_, xeNil_, xeCons_, xeTup_, xeLst_, xeDct_, xeIdx_, xeCall_, xeBi_, xeCnt_, xeLc_, xiSeq_, xiRange1_, xiEnum_, xiZip_, xtCmp_, xtTru_, xtNot_, xtAnd_, xtOr_, sRet, h, Res.bind]
theorem es_asg (h : a R (mask hs env) s = .ok x s1) (h2 : p.set x env = some env') : xsAsg hs p a R env s = .ok (.nx env') s1 := by simp [xsPass_, xsSeq_, xsRet_, xsAsg_, xsPar_, xsIf_, xsFor_, xsAug2_, xsPut_, xeVar_, xeC_, xeBin_, xeNeg_, xeCmp_, xeIf_, xeNot_, xeNil_, xeCons_, xeTup_, xeLst_, xeDct_, xeIdx_, xeCall_, xeBi_, xeCnt_, xeLc_, xiSeq_, xiRange1_, xiEnum_, xiZip_, xtCmp_, xtTru_, xtNot_, xtAnd_, xtOr_, sAsg, h, h2, Res.bind]
theorem es_par {is : List Nat} (h : l R (mask hs env) s = .ok xs s1) (h2 : setAll is xs env = some env') : xsPar hs is l R env s = .ok (.nx env') s1 := by simp [xsPass_, xsSeq_, xsRet_, xsAsg_, xsPar_, xsIf_, xsFor_, xsAug2_, xsPut_, xeVar_, xeC_, xeBin_, xeNeg_, xeCmp_, xeIf_, xeNot_, xeNil_, xeCons_, xeTup_, xeLst_, xeDct_, xeIdx_, xeCall_, xeBi_, xeCnt_, xeLc_, xiSeq_, xiRange1_, xiEnum_, xiZip_, xtCmp_, xtTru_, xtNot_, xtAnd_, xtOr_, sPar, h, h2, Res.bind]
theorem es_ift (h : ta R env s = .ok true s1) (h2 : A R env s1 = .ok o s2) : xsIf ta A B R env s = .ok o s2 := by simp [xsPass_, xsSeq_, xsRet_, xsAsg_, xsPar_, xsIf_, xsFor_, xsAug2_, xsPut_, xeVar_, xeC_, xeBin_, xeNeg_, xeCmp_, xeIf_, xeNot_, xeNil_, xeCons_, xeTup_, xeLst_, xeDct_, xeIdx_, xeCall_, xeBi_, xeCnt_, xeLc_, xiSeq_, xiRange1_, xiEnum_, xiZip_, xtCmp_, xtTru_, xtNot_, xtAnd_, xtOr_, sIf, h, h2, Res.bind]
theorem es_iff (h : ta R env s = .ok false s1) (h2 : B R env s1 = .ok o s2) : xsIf ta A B R env s = .ok o s2 := by simp [xsPass_, xsSeq_, xsRet_, xsAsg_, xsPar_, xsIf_, xsFor_, xsAug2_, xsPut_, xeVar_, xeC_, xeBin_, xeNeg_, xeCmp_, xeIf_, xeNot_, xeNil_, xeCons_, xeTup_, xeLst_, xeDct_, xeIdx_, xeCall_, xeBi_, xeCnt_, xeLc_, xiSeq_, xiRange1_, xiEnum_, xiZip_, xtCmp_, xtTru_, xtNot_, xtAnd_, xtOr_, sIf, h, h2, Res.bind]
theorem es_pass : xsPass R env s = .ok (.nx env) s := by rw [xsPass_]; rfl
theorem es_for (h : l R (mask hs env) s = .ok xs s1) (h2 : forGo R p A xs env s1 = .ok o s2) : xsFor hs l p A R env s = .ok o s2 := by simp [xsPass_, xsSeq_, xsRet_, xsAsg_, xsPar_, xsIf_, xsFor_, xsAug2_, xsPut_, xeVar_, xeC_, xeBin_, xeNeg_, xeCmp_, xeIf_, xeNot_, xeNil_, xeCons_, xeTup_, xeLst_, xeDct_, xeIdx_, xeCall_, xeBi_, xeCnt_, xeLc_, xiSeq_, xiRange1_, xiEnum_, xiZip_, xtCmp_, xtTru_, xtNot_, xtAnd_, xtOr_, sFor, h, h2, Res.bind]
theorem es_aug2 {nx : Nat × D} {mz : Nat × D} {iz ie iw : Int} {d : D} (h0 : env[i]? = some (some d)) (h1 : a R env s = .ok x s1) (h2 : atD d x = some nx) (h3 : b R env s1 = .ok y s2) (h4 : atD nx.2 y = some mz) (h5 : c R env s2 = .ok (.int ie) s3) (h6 : mz.2 = .int iz) (h7 : iAug op iz ie = some iw) :
    xsAug2 op i a b c R env s = .ok (.nx (env.set i (some (setD d nx.1 (setD nx.2 mz.1 (.int iw)))))) s3 := by
  simp [xsPass_, xsSeq_, xsRet_, xsAsg_, xsPar_, xsIf_, xsFor_, xsAug2_, xsPut_, xeVar_, xeC_, xeBin_, xeNeg_, xeCmp_, xeIf_, xeNot_, xeNil_, xeCons_, xeTup_, xeLst_, xeDct_, xeIdx_, xeCall_, xeBi_, xeCnt_, xeLc_, xiSeq_, xiRange1_, xiEnum_, xiZip_, xtCmp_, xtTru_, xtNot_, xtAnd_, xtOr_, sAug2, h0, h1, h2, h3, h4, h5, h6, h7, Res.bind, ofO, ints1]
theorem es_put {d : D} (h1 : a R env s = .ok x s1) (h0 : env[i]? = some (some d)) (h2 : b R env s1 = .ok y s2) (h3 : x.immK f = true) (h4 : dPut f d y x = some z) : xsPut f i b a R env s = .ok (.nx (env.set i (some z))) s2 := by
  simp [xsPass_, xsSeq_, xsRet_, xsAsg_, xsPar_, xsIf_, xsFor_, xsAug2_, xsPut_, xeVar_, xeC_, xeBin_, xeNeg_, xeCmp_, xeIf_, xeNot_, xeNil_, xeCons_, xeTup_, xeLst_, xeDct_, xeIdx_, xeCall_, xeBi_, xeCnt_, xeLc_, xiSeq_, xiRange1_, xiEnum_, xiZip_, xtCmp_, xtTru_, xtNot_, xtAnd_, xtOr_, sPut, h0, h1, h2, h3, h4, Res.bind]
theorem run_rt {d : Def} (hl : xs.length = d.np) (h : d.body R (xs.map some ++ List.replicate (d.ns - d.np) none) s = .ok (.rt x) s1) : runDef R d xs s = .ok x s1 := by simp [runDef, hl, h, Res.bind]
end
theorem pick_ex {k : Int} (s : Src) (h1 : 1 ≤ k) (h2 : k < 1000000) : ∃ r s', pickG [.src, .int k] s = .ok (.int r) s' ∧ 0 ≤ r ∧ r < k := by
  simp only [pickG]
  by_cases h : k < 2
  · rw [if_pos h]; exact ⟨0, s, rfl, by omega, by omega⟩
  · rw [if_neg h]
    have h30 : small30 k = true := by
      simp only [small30, Bool.and_eq_true, decide_eq_true_eq]
      have e : (2 : Nat) ^ 30 = 1073741824 := by decide
      omega
    rw [if_pos h30]
    split
    · exact ⟨_, _, rfl, Int.fmod_nonneg_of_pos _ (by omega), Int.fmod_lt_of_pos _ (by omega)⟩
    · exact ⟨_, _, rfl, Int.fmod_nonneg_of_pos _ (by omega), Int.fmod_lt_of_pos _ (by omega)⟩
theorem rangeL0 (n : Nat) : rangeL 0 (n : Int) = (List.range n).map fun (i : Nat) => D.int i := by
  simp [rangeL]
theorem rangeL_at {n i : Nat} {x : D} (h : (rangeL 0 (n : Int))[i]? = some x) : i < n ∧ x = .int i := by
  rw [rangeL0, List.getElem?_map] at h
  obtain ⟨j, h1, rfl⟩ := Option.map_eq_some_iff.mp h
  have hi : i < n := by
    have := (List.getElem?_eq_some_iff.mp h1).1
    simpa using this
  rw [List.getElem?_eq_getElem (by simpa using hi)] at h1
  simp at h1
  exact ⟨hi, by rw [h1]⟩
theorem nodup_len : ∀ (n : Nat) {l : List Nat}, l.Nodup → (∀ x ∈ l, x < n) → l.length ≤ n
  | 0, l, _, h => by
    cases l with
    | nil => simp
    | cons a l => exact absurd (h a (by simp)) (by omega)
  | n + 1, l, hn, h => by
    by_cases hm : n ∈ l
    · have h1 := nodup_len n (hn.erase n) fun x hx => by
        have := (hn.mem_erase_iff).mp hx
        have h2 := h x this.2
        have h3 := this.1
        omega
      rw [List.length_erase_of_mem hm] at h1
      omega
    · have h1 := nodup_len n hn fun x hx => by
        have h2 := h x hx
        have : x ≠ n := by rintro rfl; exact hm hx
        omega
      omega
theorem zipL_map {α β : Type} (f : α → D) (g : β → D) (a : List α) (b : List β) : zipL (a.map f) (b.map g) = (a.zip b).map fun p => .tup [f p.1, g p.2] := by
  simp [zipL, List.zip_map]
theorem enumL_map {α : Type} (f : α → D) (a : List α) : enumL (a.map f) = a.zipIdx.map fun p => .tup [.int (p.2 : Int), f p.1] := by
  simp [enumL, List.zipIdx_map]
theorem ints_map (l : List Int) : D.ints (l.map D.int) = some l := by
  induction l with
  | nil => rfl
  | cons a l ih => simp [D.ints, ih]
theorem at_map {α : Type} {l : List α} {i : Nat} {a : α} (h : l[i]? = some a) : atI l (i : Int) = some a := atI_nat h
/-! repr of small values -/
/-- values with small numbers, not deep, not wide -/
def smallD : Nat → D → Bool
  | 0, _ => false
  | n + 1, d => match d with
    | .int i => decide (i.natAbs < 1000)
    | .bl _ => true
    | .non => true
    | .tup l => decide (l.length ≤ 40) && l.all (smallD n)
    | .lst l => decide (l.length ≤ 40) && l.all (smallD n)
    | _ => false
theorem small_ok : ∀ (n : Nat) {d : D}, smallD n d = true → d.ok n = true
  | 0, d, h => by simp [smallD] at h
  | n + 1, d, h => by
    cases d <;> simp only [smallD] at h <;> simp only [D.ok] <;> first | (cases h; done) | skip
    · rw [List.all_eq_true]; intro x hx
      simp only [Bool.and_eq_true, List.all_eq_true] at h
      exact small_ok n (h.2 x hx)
    · rw [List.all_eq_true]; intro x hx
      simp only [Bool.and_eq_true, List.all_eq_true] at h
      exact small_ok n (h.2 x hx)
end Lt

namespace K26
open PySem PySem.Spec PyProof.Rows L2 Lt
def top (i : Nat) : Stmt := PySem.Challenge.pw_freetokens_k26_effects_and_weights_of_ru.main.body.getD i (.Pass ⟨0, 0, 0, 0⟩)
def nPick : List Str := ["source", "most", "cells", "others", "lap", "stirred"]
def nOpen : List Str := ["script", "stirred", "cell", "cells"]
theorem scPick : FnScope nPick ["source", "most"] (defScope (top 11)) := ⟨rfl, rfl, rfl, by decide +kernel, rfl, by decide +kernel, by decide +kernel⟩
theorem scOpen : FnScope nOpen ["script"] (defScope (top 10)) := ⟨rfl, rfl, rfl, by decide +kernel, rfl, by decide +kernel, by decide +kernel⟩
section
variable {P : Program} {w : World} {K : PySem.W.Frag} {mg : Str → Option Value} {base : Heap} {f : Addr} {fd : FuncData}
theorem ok_pick (F : FunD K "_law_pick" "_law_pick" (defArgs (top 11)) (defBody (top 11)) (defScope (top 11)) [] [] f fd) (bl : ∀ x ∈ blts, mg x = none) (sa ca : Addr) (XR : Exc → Value → Option Addr → Hp → Prop) (ents : Nat → Option Ent) (n : Nat) :
    FnG P w K mg base (L2.CX P w) (n + 1) f fd ["source", "most"] (spP (yn sa ca XR ents n) pickG 2 0) := by
  obtain ⟨oc, od, dV, kV, doc, pm, an, cdv, ct, osl, rfl, lk, hcd, _, _⟩ := F.ex
  refine fng_of lk hcd scPick (fun vs H Q E h => h.1) fun A outer s H vs Q E hr hg h => ⟨tPick K, ?_, ?_⟩
  · have po : PassesOwn (model P w) (A.deeper (envOfC "_law_pick" (defScope (top 11)) s.heap.objs.size f cdv)) (envOfC "_law_pick" (defScope (top 11)) s.heap.objs.size f cdv) (cxOf (L2.CX P w) P w K mg base nPick "_law_pick" (defScope (top 11)) f cdv A outer s H E).xe := passes_of (X := cxOf (L2.CX P w) P w K mg base nPick "_law_pick" (defScope (top 11)) f cdv A outer s H E) rfl
    have hu : (A.deeper (envOfC "_law_pick" (defScope (top 11)) s.heap.objs.size f cdv)).units + 1 < cLine := by have := hr.un; omega
    have mi : mg "int" = none := bl _ (by decide)
    have ml : mg "len" = none := bl _ (by decide)
    have gi : (defScope (top 11)).names.lookup ("int" : Str) = some .globalImplicit := by decide +kernel
    have gn : (defScope (top 11)).names.lookup ("len" : Str) = some .globalImplicit := by decide +kernel
    have dg := fun (x : Str) {p1 p2 p3 : Pos} {j : Nat} => pe_dget (X := cxOf (L2.CX P w) P w K mg base nPick "_law_pick" (defScope (top 11)) f cdv A outer s H E) (i := .Constant (.str x) j p2) (pos := p3) hu (pv 0 (pos := p1)) pe_str (fun _ _ => rfl)
    exact pss_cons (ps_if (pt_cmp (pc_lt (pv 1) pe_int)) (pss_one (ps_ret pe_int)) pss_nil)
      (pss_cons (ps_set (i := 2) scPick.nd rfl (Or.inl rfl) (dg "cells"))
      (pss_cons (ps_while po (pw_and (pt_cmp (pc_lt (dg "left") pe_int)) (pw_and1 (pt_cmp (pc_gt (pe_callB call_len (show Gl _ _ from gn) ml boot_len (pa_cons (pv 2) pa_nil)) pe_int)))).pt
        (pss_one (ps_dput hu (pv 0) pe_str (pe_bm0 PySem.F.plainAttrs_list PySem.F.slot_list_pop PySem.F.type_list_pop mt_pop (pv 2)) rfl)))
      (pss_cons (ps_set (i := 3) scPick.nd rfl (Or.inl rfl) (dg "left"))
      (pss_cons (ps_if (pt_cmp (pc_gt (pv 3) pe_int)) (pss_cons (ps_dput hu (pv 0) pe_str (pe_op op_fdivN (pv 3) (pv 1)) rfl) (pss_one (ps_ret (pe_op op_modN (pe_callTy call_int1 (show Gl _ _ from gi) mi (by decide +kernel) (pa_cons (pv 3) pa_nil)) (pv 1))))) pss_nil)
      (pss_cons (ps_dput hu (pv 0) pe_str (pe_op op_add (dg "turn") pe_int) rfl)
      (pss_cons (ps_set (i := 4) scPick.nd rfl (Or.inl rfl) (dg "turn"))
      (pss_cons (ps_set (i := 5) scPick.nd rfl (Or.inl rfl) (pe_op op_modN (pe_callTy call_int1 (show Gl _ _ from gi) mi (by decide +kernel) (pa_cons (pe_op op_add (dg "mixed") (pe_op op_mul (pv 4) pe_int)) pa_nil)) pe_int))
      (pss_cons (ps_set (i := 5) scPick.nd rfl (Or.inl rfl) (pe_op op_modN (pe_callTy call_int1 (show Gl _ _ from gi) mi (by decide +kernel) (pa_cons (pe_op op_add (pe_op op_mul (pv 5) (pv 5)) (pe_op op_mul (pv 4) pe_int)) pa_nil)) pe_int))
      (pss_one (ps_ret (pe_op op_modN (pe_callTy call_int1 (show Gl _ _ from gi) mi (by decide +kernel) (pa_cons (pe_op op_fdivN (pv 5) pe_int) pa_nil)) (pv 1))))))))))))
  · obtain ⟨hl, P0, ds, sc, pok, rl, hs, q⟩ := h
    match ds, q with
    | [.src, .int most], q =>
      cases rl with
      | cons r1 rs => cases rs with
        | cons r2 rn =>
          cases rn
          cases r1
          cases r2
          exact pick_run (y := yn sa ca XR ents n) rfl rfl hs q
theorem ok_open (F : FunD K "_law_open_cells" "_law_open_cells" (defArgs (top 10)) (defBody (top 10)) (defScope (top 10)) [] [] f fd) (bl : ∀ x ∈ blts, mg x = none) (n : Nat) :
    FnG P w K mg base (L2.CX P w) (n + 1) f fd ["script"] (spOpen K) := by
  obtain ⟨oc, od, dV, kV, doc, pm, an, cdv, ct, osl, rfl, lk, hcd, _, _⟩ := F.ex
  refine fng_of lk hcd scOpen (fun vs H Q E h => by obtain ⟨a, zs, rfl, _⟩ := h; rfl) fun A outer s H vs Q E hr hg h => ⟨tOpen K, ?_, open_run rfl rfl h⟩
  have po : PassesOwn (model P w) (A.deeper (envOfC "_law_open_cells" (defScope (top 10)) s.heap.objs.size f cdv)) (envOfC "_law_open_cells" (defScope (top 10)) s.heap.objs.size f cdv) (cxOf (L2.CX P w) P w K mg base nOpen "_law_open_cells" (defScope (top 10)) f cdv A outer s H E).xe := passes_of (X := cxOf (L2.CX P w) P w K mg base nOpen "_law_open_cells" (defScope (top 10)) f cdv A outer s H E) rfl
  have mi : mg "int" = none := bl _ (by decide)
  have ma : mg "abs" = none := bl _ (by decide)
  have gi : (defScope (top 10)).names.lookup ("int" : Str) = some .globalImplicit := by decide +kernel
  exact pss_cons (ps_set (i := 1) scOpen.nd rfl (Or.inl rfl) pe_int)
    (pss_cons (ps_for po rfl (pi_seqA (pv 0)) (pg_name (i := 2) scOpen.nd rfl (Or.inl rfl)) (pss_one (ps_set (i := 1) scOpen.nd rfl (Or.inl rfl) (pe_op op_modN (pe_callTy call_int1 (show Gl _ _ from gi) mi (by decide +kernel) (pa_cons (pe_op op_add (pe_op op_add (pe_op op_mul (pv 1) pe_int) (pe_op op_mul (pv 2) pe_int)) pe_int) pa_nil)) pe_int))))
    (pss_cons (ps_setLc (i := 3) (own := [("cell", 2)]) rfl scOpen.nd rfl rfl (by rw [sw_lc rfl]; rfl) (pi_seqA (pv 0)) (show BlkOk nOpen (defScope (top 10)) _ _ from blk_ok (by decide +kernel)) (fun _ _ _ _ _ => pg_name (i := 2) scOpen.nd rfl (Or.inl rfl)) (fun _ _ _ _ _ => pts_nil) (fun _ _ _ _ _ => pe_callB call_abs rfl ma (by decide +kernel) (pa_cons (pv 2) pa_nil)))
    (pss_one (ps_ret (pe_disp (pps_cons pe_str (pe_revL (pv 3)) (pps_cons pe_str pe_int (pps_cons pe_str (pv 1) (pps_cons pe_str pe_int pps_nil)))) rfl rfl (by simp) (by decide))))))
end
end K26

namespace K26
open PySem PySem.Spec PyProof.Rows L2 Lt
def tabL : List (Str × (Nat × Nat × Nat)) := [("effects", (1, 1, 0)), ("place_rows", (2, 1, 0)), ("product", (3, 2, 0)), ("pushes", (4, 2, 0)), ("change", (5, 2, 0)), ("weight_of", (6, 2, 0)), ("deed_counts", (7, 2, 0)), ("stands_still", (8, 3, 0)), ("_law_pick", (11, 2, 0)), ("_law_of", (12, 2, 0)), ("_law_net", (13, 3, 0)), ("_law_effect", (14, 3, 0)), ("_law_effects", (15, 1, 0)), ("_law_pushes", (16, 2, 0)), ("_law_change", (17, 2, 0)), ("_law_can", (18, 3, 0)), ("_law_done", (19, 3, 0)), ("_law_run", (20, 4, 0)), ("_law_marking", (21, 3, 0))]
def tab : Str → Option (Nat × Nat × Nat) := tabOf tabL
def cc (i : Nat) (N : List Str) (mt : List (Nat × Nat)) : CC := { N := N, sc := defScope (top i), fn := fun _ => true, tab := tab, mt := mt, kr := 0, dt := true }
-- effects
def n1 : List Str := ["net", "places", "deeds", "arrows", "rows", "deed", "way", "one", "other", "row"]
def m1 : SM := (sSeq (sAsg [4] (.tp [1, 2, 3]) (eVar 0)) (sSeq (sAsg [4] (.nm 4) (eLc [5] (iRange1 (eVar 2)) (.nm 5) tYes (eBin .Mult (eLst (eCons (eC (.int 0)) eNil)) (eVar 1)))) (sSeq (sFor [4] (iSeq (eVar 3)) (.tp [6, 7, 8]) (sIf (tCmp .Eq (eVar 6) (eC (.int 0))) (sAug2 .Sub 4 (eVar 8) (eVar 7) (eC (.int 1))) (sAug2 .Add 4 (eVar 7) (eVar 8) (eC (.int 1))))) (sRet (eBi bTuple (eCons (eLc [9] (iSeq (eVar 4)) (.nm 9) tYes (eBi bTuple (eCons (eVar 9) eNil))) eNil))))))
theorem c1 : cSs 60 (cc 1 n1 [(4, 2)]) (defBody (top 1)) = some m1 := by kernel_rfl
-- place_rows
def n2 : List Str := ["net", "rows", "row", "place"]
def m2 : SM := (sSeq (sAsg [] (.nm 1) (eCall 1 (eCons (eVar 0) eNil))) (sRet (eLc [3] (iRange1 (eIdx (eVar 0) (eC (.int 0)))) (.nm 3) tYes (eBi bTuple (eCons (eLc [2] (iSeq (eVar 1)) (.nm 2) tYes (eIdx (eVar 2) (eVar 3))) eNil)))))
theorem c2 : cSs 60 (cc 2 n2 []) (defBody (top 2)) = some m2 := by kernel_rfl
-- product
def n3 : List Str := ["one", "other", "a", "b"]
def m3 : SM := (sRet (eBi bSum (eCons (eLc [2, 3] (iZip (eVar 0) (eVar 1)) (.tp [2, 3]) tYes (eBin .Mult (eVar 2) (eVar 3))) eNil)))
theorem c3 : cSs 60 (cc 3 n3 []) (defBody (top 3)) = some m3 := by kernel_rfl
-- pushes
def n4 : List Str := ["net", "weights", "row"]
def m4 : SM := (sRet (eBi bTuple (eCons (eLc [2] (iSeq (eCall 1 (eCons (eVar 0) eNil))) (.nm 2) tYes (eCall 3 (eCons (eVar 2) (eCons (eVar 1) eNil)))) eNil)))
theorem c4 : cSs 60 (cc 4 n4 []) (defBody (top 4)) = some m4 := by kernel_rfl
-- change
def n5 : List Str := ["net", "counts", "row"]
def m5 : SM := (sRet (eBi bTuple (eCons (eLc [2] (iSeq (eCall 2 (eCons (eVar 0) eNil))) (.nm 2) tYes (eCall 3 (eCons (eVar 2) (eCons (eVar 1) eNil)))) eNil)))
theorem c5 : cSs 60 (cc 5 n5 []) (defBody (top 5)) = some m5 := by kernel_rfl
-- weight_of
def n6 : List Str := ["weights", "marking"]
def m6 : SM := (sRet (eCall 3 (eCons (eVar 0) (eCons (eVar 1) eNil))))
theorem c6 : cSs 60 (cc 6 n6 []) (defBody (top 6)) = some m6 := by kernel_rfl
-- deed_counts
def n7 : List Str := ["net", "run", "one", "deed"]
def m7 : SM := (sRet (eBi bTuple (eCons (eLc [3] (iRange1 (eIdx (eVar 0) (eC (.int 1)))) (.nm 3) tYes (eBi bLen (eCons (eLc [2] (iSeq (eVar 1)) (.nm 2) (tCmp .Eq (eVar 2) (eVar 3)) (eVar 2)) eNil))) eNil)))
theorem c7 : cSs 60 (cc 7 n7 []) (defBody (top 7)) = some m7 := by kernel_rfl
-- stands_still
def n8 : List Str := ["net", "word", "row"]
def m8 : SM := (sRet (eNot (eBi bAny (eCons (eIf (tCmp .Eq (eVar 1) (eC (.str "weights"))) (eCall 4 (eCons (eVar 0) (eCons (eVar 2) eNil))) (eCall 5 (eCons (eVar 0) (eCons (eVar 2) eNil)))) eNil))))
theorem c8 : cSs 60 (cc 8 n8 []) (defBody (top 8)) = some m8 := by kernel_rfl
-- _law_of
def n12 : List Str := ["source", "some"]
def m12 : SM := (sRet (eIdx (eVar 1) (eCall 11 (eCons (eVar 0) (eCons (eBi bLen (eCons (eVar 1) eNil)) eNil)))))
theorem c12 : cSs 60 (cc 12 n12 []) (defBody (top 12)) = some m12 := by kernel_rfl
-- _law_net
def n13 : List Str := ["source", "places", "deeds", "p", "d", "way", "share", "found", "place", "deed"]
def m13 : SM := (sSeq (sPar [7] [3, 4, 5] (eCons (eBin .Add (eC (.int 1)) (eCall 11 (eCons (eVar 0) (eCons (eVar 1) eNil)))) (eCons (eBin .Add (eC (.int 1)) (eCall 11 (eCons (eVar 0) (eCons (eVar 2) eNil)))) (eCons (eCall 11 (eCons (eVar 0) (eCons (eC (.int 4)) eNil))) eNil)))) (sSeq (sPar [7] [6, 7] (eCons (eBin .Add (eC (.int 2)) (eCall 11 (eCons (eVar 0) (eCons (eC (.int 4)) eNil)))) (eCons (eDct true) eNil))) (sSeq (sFor [7] (iRange1 (eVar 3)) (.nm 8) (sFor [7] (iRange1 (eVar 4)) (.nm 9) (sSeq (sIf (tCmp .Eq (eCall 11 (eCons (eVar 0) (eCons (eVar 6) eNil))) (eC (.int 0))) (sPut 0 7 (eTup (eCons (eC (.int 0)) (eCons (eVar 8) (eCons (eVar 9) eNil)))) (eC (.bl true))) sPass) (sIf (tCmp .Eq (eCall 11 (eCons (eVar 0) (eCons (eVar 6) eNil))) (eC (.int 0))) (sPut 0 7 (eTup (eCons (eC (.int 1)) (eCons (eVar 9) (eCons (eVar 8) eNil)))) (eC (.bl true))) sPass)))) (sSeq (sFor [7] (iRange1 (eIf (tCmp .Lt (eVar 5) (eC (.int 2))) (eVar 4) (eC (.int 0)))) (.nm 9) (sSeq (sPut 0 7 (eTup (eCons (eC (.int 0)) (eCons (eCall 11 (eCons (eVar 0) (eCons (eVar 3) eNil))) (eCons (eVar 9) eNil)))) (eC (.bl true))) (sPut 0 7 (eTup (eCons (eC (.int 1)) (eCons (eVar 9) (eCons (eCall 11 (eCons (eVar 0) (eCons (eVar 3) eNil))) eNil)))) (eC (.bl true))))) (sSeq (sFor [7] (iRange1 (eIf (tCmp .Eq (eVar 5) (eC (.int 2))) (eVar 4) (eC (.int 0)))) (.nm 9) (sSeq (sPut 0 7 (eTup (eCons (eC (.int 0)) (eCons (eBin .Mod (eBi bInt (eCons (eVar 9) eNil)) (eVar 3)) (eCons (eVar 9) eNil)))) (eC (.bl true))) (sPut 0 7 (eTup (eCons (eC (.int 1)) (eCons (eVar 9) (eCons (eBin .Mod (eBi bInt (eCons (eBin .Add (eVar 9) (eC (.int 1))) eNil)) (eVar 3)) eNil)))) (eC (.bl true))))) (sRet (eTup (eCons (eVar 3) (eCons (eVar 4) (eCons (eBi bTuple (eCons (eBi bSorted (eCons (eBi bList (eCons (eVar 7) eNil)) eNil)) eNil)) eNil))))))))))
theorem c13 : cSs 60 (cc 13 n13 [(7, 1)]) (defBody (top 13)) = some m13 := by kernel_rfl
-- _law_effect
def n14 : List Str := ["net", "deed", "place"]
def m14 : SM := (sRet (eBin .Sub (eBi bInt (eCons (eCmp .In (eTup (eCons (eC (.int 1)) (eCons (eVar 1) (eCons (eVar 2) eNil)))) (eIdx (eVar 0) (eC (.int 2)))) eNil)) (eBi bInt (eCons (eCmp .In (eTup (eCons (eC (.int 0)) (eCons (eVar 2) (eCons (eVar 1) eNil)))) (eIdx (eVar 0) (eC (.int 2)))) eNil))))
theorem c14 : cSs 60 (cc 14 n14 []) (defBody (top 14)) = some m14 := by kernel_rfl
-- _law_effects
def n15 : List Str := ["net", "place", "deed"]
def m15 : SM := (sRet (eBi bTuple (eCons (eLc [2] (iRange1 (eIdx (eVar 0) (eC (.int 1)))) (.nm 2) tYes (eBi bTuple (eCons (eLc [1] (iRange1 (eIdx (eVar 0) (eC (.int 0)))) (.nm 1) tYes (eCall 14 (eCons (eVar 0) (eCons (eVar 2) (eCons (eVar 1) eNil))))) eNil))) eNil)))
theorem c15 : cSs 60 (cc 15 n15 []) (defBody (top 15)) = some m15 := by kernel_rfl
-- _law_pushes
def n16 : List Str := ["net", "weights", "y", "e", "row"]
def m16 : SM := (sRet (eBi bTuple (eCons (eLc [4] (iSeq (eCall 15 (eCons (eVar 0) eNil))) (.nm 4) tYes (eBi bSum (eCons (eLc [2, 3] (iZip (eVar 1) (eVar 4)) (.tp [2, 3]) tYes (eBin .Mult (eVar 2) (eVar 3))) eNil))) eNil)))
theorem c16 : cSs 60 (cc 16 n16 []) (defBody (top 16)) = some m16 := by kernel_rfl
-- _law_change
def n17 : List Str := ["net", "counts", "rows", "c", "row", "place"]
def m17 : SM := (sSeq (sAsg [] (.nm 2) (eCall 15 (eCons (eVar 0) eNil))) (sRet (eBi bTuple (eCons (eLc [5] (iRange1 (eIdx (eVar 0) (eC (.int 0)))) (.nm 5) tYes (eBi bSum (eCons (eLc [3, 4] (iZip (eVar 1) (eVar 2)) (.tp [3, 4]) tYes (eBin .Mult (eVar 3) (eIdx (eVar 4) (eVar 5)))) eNil))) eNil))))
theorem c17 : cSs 60 (cc 17 n17 []) (defBody (top 17)) = some m17 := by kernel_rfl
-- _law_can
def n18 : List Str := ["net", "marking", "deed", "place"]
def m18 : SM := (sRet (eCmp .Eq (eLc [3] (iRange1 (eIdx (eVar 0) (eC (.int 0)))) (.nm 3) (tAnd (tCmp .In (eTup (eCons (eC (.int 0)) (eCons (eVar 3) (eCons (eVar 2) eNil)))) (eIdx (eVar 0) (eC (.int 2)))) (tCmp .Eq (eIdx (eVar 1) (eVar 3)) (eC (.int 0)))) (eVar 3)) (eLst eNil)))
theorem c18 : cSs 60 (cc 18 n18 []) (defBody (top 18)) = some m18 := by kernel_rfl
-- _law_done
def n19 : List Str := ["net", "marking", "deed", "place", "tokens"]
def m19 : SM := (sRet (eBi bTuple (eCons (eLc [3, 4] (iEnum (eVar 1)) (.tp [3, 4]) tYes (eBin .Add (eVar 4) (eCall 14 (eCons (eVar 0) (eCons (eVar 2) (eCons (eVar 3) eNil)))))) eNil)))
theorem c19 : cSs 60 (cc 19 n19 []) (defBody (top 19)) = some m19 := by kernel_rfl
-- _law_run
def n20 : List Str := ["source", "net", "marking", "laps", "run", "lap", "some", "deed"]
def m20 : SM := (sSeq (sAsg [] (.nm 4) (eTup eNil)) (sSeq (sFor [] (iRange1 (eVar 3)) (.nm 5) (sSeq (sAsg [] (.nm 6) (eLc [7] (iRange1 (eIdx (eVar 1) (eC (.int 1)))) (.nm 7) (tTru (eCall 18 (eCons (eVar 1) (eCons (eVar 2) (eCons (eVar 7) eNil))))) (eVar 7))) (sSeq (sIf (tCmp .Eq (eVar 6) (eLst eNil)) (sRet (eTup (eCons (eVar 4) (eCons (eVar 2) eNil)))) sPass) (sSeq (sAsg [] (.nm 7) (eCall 12 (eCons (eVar 0) (eCons (eVar 6) eNil)))) (sAsg [] (.tp [4, 2]) (eTup (eCons (eBin .Add (eVar 4) (eTup (eCons (eVar 7) eNil))) (eCons (eCall 19 (eCons (eVar 1) (eCons (eVar 2) (eCons (eVar 7) eNil)))) eNil)))))))) (sRet (eTup (eCons (eVar 4) (eCons (eVar 2) eNil))))))
theorem c20 : cSs 60 (cc 20 n20 []) (defBody (top 20)) = some m20 := by kernel_rfl
-- _law_marking
def n21 : List Str := ["source", "p", "most", "place"]
def m21 : SM := (sRet (eBi bTuple (eCons (eLc [3] (iRange1 (eVar 1)) (.nm 3) tYes (eCall 11 (eCons (eVar 0) (eCons (eVar 2) eNil)))) eNil)))
theorem c21 : cSs 60 (cc 21 n21 []) (defBody (top 21)) = some m21 := by kernel_rfl
-- law
def n22 : List Str := ["script", "source", "lap", "net", "kept", "rows", "p", "weights", "place", "counts", "deed", "told", "late", "due", "a", "b", "marking", "run", "end", "some", "grown", "one"]
def m22 : SM := (sSeq (sFor [] (iRange1 (eC (.int 5))) (.nm 2) (sSeq (sAsg [] (.nm 3) (eCall 13 (eCons (eVar 1) (eCons (eIdx (eLst (eCons (eC (.int 3)) (eCons (eC (.int 5)) (eCons (eC (.int 6)) (eCons (eC (.int 7)) (eCons (eC (.int 7)) eNil)))))) (eVar 2)) (eCons (eIdx (eLst (eCons (eC (.int 3)) (eCons (eC (.int 5)) (eCons (eC (.int 6)) (eCons (eC (.int 7)) (eCons (eC (.int 7)) eNil)))))) (eVar 2)) eNil))))) (sSeq (sPar [] [4, 5, 6] (eCons (eBi bRepr (eCons (eVar 3) eNil)) (eCons (eCall 15 (eCons (eVar 3) eNil)) (eCons (eIdx (eVar 3) (eC (.int 0))) eNil)))) (sSeq (sIf (tCmp .NotEq (eBi bRepr (eCons (eCall 1 (eCons (eVar 3) eNil)) eNil)) (eBi bRepr (eCons (eVar 5) eNil))) (sRet (eC (.bl false))) sPass) (sSeq (sAsg [] (.nm 7) (eBi bTuple (eCons (eLc [8] (iRange1 (eVar 6)) (.nm 8) tYes (eBin .Sub (eCall 11 (eCons (eVar 1) (eCons (eC (.int 9)) eNil))) (eC (.int 4)))) eNil))) (sSeq (sAsg [] (.nm 9) (eBi bTuple (eCons (eLc [10] (iRange1 (eIdx (eVar 3) (eC (.int 1)))) (.nm 10) tYes (eBin .Sub (eCall 11 (eCons (eVar 1) (eCons (eC (.int 9)) eNil))) (eC (.int 4)))) eNil))) (sSeq (sAsg [] (.tp [7, 9]) (eIf (tCmp .Gt (eCall 11 (eCons (eVar 1) (eCons (eC (.int 4)) eNil))) (eC (.int 0))) (eTup (eCons (eVar 7) (eCons (eVar 9) eNil))) (eTup (eCons (eBin .Mult (eTup (eCons (eC (.int 0)) eNil)) (eVar 6)) (eCons (eBin .Mult (eTup (eCons (eC (.int 0)) eNil)) (eIdx (eVar 3) (eC (.int 1)))) eNil))))) (sSeq (sPar [] [11, 12] (eCons (eLst (eCons (eCall 4 (eCons (eVar 3) (eCons (eVar 7) eNil))) (eCons (eCall 5 (eCons (eVar 3) (eCons (eVar 9) eNil))) eNil))) (eCons (eLst (eCons (eCall 16 (eCons (eVar 3) (eCons (eVar 7) eNil))) (eCons (eCall 17 (eCons (eVar 3) (eCons (eVar 9) eNil))) eNil))) eNil))) (sSeq (sIf (tCmp .NotEq (eBi bRepr (eCons (eVar 11) eNil)) (eBi bRepr (eCons (eVar 12) eNil))) (sRet (eC (.bl false))) sPass) (sSeq (sAsg [] (.nm 13) (eLst (eCons (eCmp .Eq (eIdx (eVar 12) (eC (.int 0))) (eBin .Mult (eTup (eCons (eC (.int 0)) eNil)) (eIdx (eVar 3) (eC (.int 1))))) (eCons (eCmp .Eq (eIdx (eVar 12) (eC (.int 1))) (eBin .Mult (eTup (eCons (eC (.int 0)) eNil)) (eVar 6))) eNil)))) (sSeq (sIf (tCmp .NotEq (eBi bRepr (eCons (eLst (eCons (eCall 8 (eCons (eVar 3) (eCons (eC (.str "weights")) (eCons (eVar 7) eNil)))) (eCons (eCall 8 (eCons (eVar 3) (eCons (eC (.str "counts")) (eCons (eVar 9) eNil)))) eNil))) eNil)) (eBi bRepr (eCons (eVar 13) eNil))) (sRet (eC (.bl false))) sPass) (sSeq (sIf (tCmp .NotEq (eBi bSum (eCons (eLc [14, 15] (iZip (eVar 7) (eIdx (eVar 12) (eC (.int 1)))) (.tp [14, 15]) tYes (eBin .Mult (eVar 14) (eVar 15))) eNil)) (eBi bSum (eCons (eLc [14, 15] (iZip (eVar 9) (eIdx (eVar 12) (eC (.int 0)))) (.tp [14, 15]) tYes (eBin .Mult (eVar 14) (eVar 15))) eNil))) (sRet (eC (.bl false))) sPass) (sSeq (sAsg [] (.nm 16) (eCall 21 (eCons (eVar 1) (eCons (eVar 6) (eCons (eC (.int 5)) eNil))))) (sSeq (sAsg [] (.tp [17, 18]) (eCall 20 (eCons (eVar 1) (eCons (eVar 3) (eCons (eVar 16) (eCons (eC (.int 12)) eNil)))))) (sSeq (sAsg [] (.nm 11) (eCall 7 (eCons (eVar 3) (eCons (eVar 17) eNil)))) (sSeq (sIf (tCmp .NotEq (eBi bRepr (eCons (eVar 11) eNil)) (eBi bRepr (eCons (eBi bTuple (eCons (eLc [10] (iRange1 (eIdx (eVar 3) (eC (.int 1)))) (.nm 10) tYes (eCnt (eBi bList (eCons (eVar 17) eNil)) (eVar 10))) eNil)) eNil))) (sRet (eC (.bl false))) sPass) (sSeq (sIf (tCmp .NotEq (eBi bTuple (eCons (eLc [14, 15] (iZip (eVar 16) (eCall 5 (eCons (eVar 3) (eCons (eVar 11) eNil)))) (.tp [14, 15]) tYes (eBin .Add (eVar 14) (eVar 15))) eNil)) (eVar 18)) (sRet (eC (.bl false))) sPass) (sSeq (sAsg [] (.nm 19) (eLst (eCons (eCall 6 (eCons (eVar 7) (eCons (eVar 16) eNil))) (eCons (eCall 6 (eCons (eVar 7) (eCons (eVar 18) eNil))) eNil)))) (sSeq (sAsg [] (.nm 20) (eLc [21] (iSeq (eTup (eCons (eVar 16) (eCons (eVar 18) eNil)))) (.nm 21) tYes (eBi bSum (eCons (eLc [14, 15] (iZip (eVar 7) (eVar 21)) (.tp [14, 15]) tYes (eBin .Mult (eVar 14) (eVar 15))) eNil)))) (sIf (tOr (tCmp .NotEq (eBi bRepr (eCons (eVar 19) eNil)) (eBi bRepr (eCons (eVar 20) eNil))) (tOr (tAnd (tTru (eIdx (eVar 13) (eC (.int 0)))) (tCmp .NotEq (eIdx (eVar 19) (eC (.int 0))) (eIdx (eVar 19) (eC (.int 1))))) (tCmp .NotEq (eBi bRepr (eCons (eVar 3) eNil)) (eVar 4)))) (sRet (eC (.bl false))) sPass)))))))))))))))))))) (sSeq (sAsg [] (.nm 3) (eTup (eCons (eC (.int 3)) (eCons (eC (.int 2)) (eCons (eTup (eCons (eTup (eCons (eC (.int 0)) (eCons (eC (.int 0)) (eCons (eC (.int 0)) eNil)))) (eCons (eTup (eCons (eC (.int 0)) (eCons (eC (.int 1)) (eCons (eC (.int 1)) eNil)))) (eCons (eTup (eCons (eC (.int 1)) (eCons (eC (.int 0)) (eCons (eC (.int 1)) eNil)))) (eCons (eTup (eCons (eC (.int 1)) (eCons (eC (.int 0)) (eCons (eC (.int 2)) eNil)))) (eCons (eTup (eCons (eC (.int 1)) (eCons (eC (.int 1)) (eCons (eC (.int 0)) eNil)))) eNil)))))) eNil))))) (sSeq (sAsg [] (.nm 11) (eLst (eCons (eCall 1 (eCons (eVar 3) eNil)) (eCons (eCall 4 (eCons (eVar 3) (eCons (eTup (eCons (eC (.int 1)) (eCons (eC (.int 1)) (eCons (eC (.int 1)) eNil)))) eNil))) (eCons (eCall 5 (eCons (eVar 3) (eCons (eTup (eCons (eC (.int 1)) (eCons (eC (.int 1)) eNil))) eNil))) (eCons (eCall 8 (eCons (eVar 3) (eCons (eC (.str "weights")) (eCons (eTup (eCons (eC (.int 1)) (eCons (eC (.int 1)) (eCons (eC (.int 0)) eNil)))) eNil)))) eNil)))))) (sRet (eCmp .Eq (eBi bRepr (eCons (eVar 11) eNil)) (eBi bRepr (eCons (eLst (eCons (eTup (eCons (eTup (eCons (eNeg (eC (.int 1))) (eCons (eC (.int 1)) (eCons (eC (.int 1)) eNil)))) (eCons (eTup (eCons (eC (.int 1)) (eCons (eNeg (eC (.int 1))) (eCons (eC (.int 0)) eNil)))) eNil))) (eCons (eTup (eCons (eC (.int 1)) (eCons (eC (.int 0)) eNil))) (eCons (eTup (eCons (eC (.int 0)) (eCons (eC (.int 0)) (eCons (eC (.int 1)) eNil)))) (eCons (eC (.bl true)) eNil))))) eNil)))))))
theorem c22 : cSs 60 (cc 22 n22 []) ((defBody (top 22)).drop 1) = some m22 := by kernel_rfl
def ents : Nat → Option Ent := fun i => match i with
  | 1 => some (.df ⟨1, n1.length, m1⟩)
  | 2 => some (.df ⟨1, n2.length, m2⟩)
  | 3 => some (.df ⟨2, n3.length, m3⟩)
  | 4 => some (.df ⟨2, n4.length, m4⟩)
  | 5 => some (.df ⟨2, n5.length, m5⟩)
  | 6 => some (.df ⟨2, n6.length, m6⟩)
  | 7 => some (.df ⟨2, n7.length, m7⟩)
  | 8 => some (.df ⟨3, n8.length, m8⟩)
  | 11 => some (.pr pickG)
  | 12 => some (.df ⟨2, n12.length, m12⟩)
  | 13 => some (.df ⟨3, n13.length, m13⟩)
  | 14 => some (.df ⟨3, n14.length, m14⟩)
  | 15 => some (.df ⟨1, n15.length, m15⟩)
  | 16 => some (.df ⟨2, n16.length, m16⟩)
  | 17 => some (.df ⟨2, n17.length, m17⟩)
  | 18 => some (.df ⟨3, n18.length, m18⟩)
  | 19 => some (.df ⟨3, n19.length, m19⟩)
  | 20 => some (.df ⟨4, n20.length, m20⟩)
  | 21 => some (.df ⟨3, n21.length, m21⟩)
  | _ => none
end K26

namespace K26
open PySem L2 Lt
abbrev Ar := Nat × Nat × Nat
def arD (a : Ar) : D := .tup [.int a.1, .int a.2.1, .int a.2.2]
def netD (p d : Nat) (A : List Ar) : D := .tup [.int p, .int d, .tup (A.map arD)]
def tupI (l : List Int) : D := .tup (l.map D.int)
def eff (A : List Ar) (t q : Nat) : Int := (if (1, t, q) ∈ A then 1 else 0) - (if (0, q, t) ∈ A then 1 else 0)
def effs (p d : Nat) (A : List Ar) : List (List Int) := (List.range d).map fun t => (List.range p).map fun q => eff A t q
def dot (a b : List Int) : Int := ((a.zip b).map fun p => p.1 * p.2).sum
theorem eq_arD (a b : Ar) : D.eq (arD a) (arD b) = decide (a = b) := by
  obtain ⟨a1, a2, a3⟩ := a
  obtain ⟨b1, b2, b3⟩ := b
  simp only [arD, D.eq, D.eqL, Bool.and_true]
  rw [Bool.eq_iff_iff]
  simp
  omega
theorem mem_arD (A : List Ar) (a : Ar) : dIn (arD a) (.tup (A.map arD)) = some (decide (a ∈ A)) := by
  have h1 : D.ok 50 (arD a) = true := by simp [arD, D.ok]
  have h2 : (A.map arD).all (D.ok 50) = true := by
    rw [List.all_eq_true]
    intro x hx
    obtain ⟨b, _, rfl⟩ := List.mem_map.mp hx
    simp [arD, D.ok]
  simp only [dIn, h1, h2, Bool.and_self, if_true]
  congr 1
  rw [Bool.eq_iff_iff]
  simp only [List.any_map, List.any_eq_true, Function.comp, eq_arD, decide_eq_true_eq]
  constructor
  · rintro ⟨x, h1, h2⟩; exact h2 ▸ h1
  · intro h; exact ⟨a, h, rfl⟩
theorem c14' {n : Nat} {xs : List D} {s : Src} : callN ents (n + 1) 14 xs s = runDef ⟨callN ents n⟩ ⟨3, 3, m14⟩ xs s := rfl
theorem C14 {n p d t q : Nat} {A : List Ar} {s : Src} : callN ents (n + 1) 14 [netD p d A, .int t, .int q] s = .ok (.int (eff A t q)) s := by
  rw [c14']
  have e1 : dIn (D.tup [.int 1, .int t, .int q]) (.tup (A.map arD)) = some (decide ((1, t, q) ∈ A)) := mem_arD A (1, t, q)
  have e0 : dIn (D.tup [.int 0, .int q, .int t]) (.tup (A.map arD)) = some (decide ((0, q, t) ∈ A)) := mem_arD A (0, q, t)
  simp [runDef, m14, sRet, eBin, eBi, eCons, eNil, eCmp, eTup, eC, eVar, eIdx, Res.bind, ofO, netD, dIdx, atI, ixN, dCmp, e1, e0, bInt, dBin, dSub, b2i, eff]
theorem okR_nat {n : Nat} (h : n ≤ 1000) : okR (n : Int) = true := by
  simp only [okR, decide_eq_true_eq]
  have : big = 1000000 := rfl
  omega
def x1 : SM := (xsSeq (xsAsg [4] (.tp [1, 2, 3]) (xeVar 0)) (xsSeq (xsAsg [4] (.nm 4) (xeLc [5] (xiRange1 (xeVar 2)) (.nm 5) tYes (xeBin .Mult (xeLst (xeCons (xeC (.int 0)) xeNil)) (xeVar 1)))) (xsSeq (xsFor [4] (xiSeq (xeVar 3)) (.tp [6, 7, 8]) (xsIf (xtCmp .Eq (xeVar 6) (xeC (.int 0))) (xsAug2 .Sub 4 (xeVar 8) (xeVar 7) (xeC (.int 1))) (xsAug2 .Add 4 (xeVar 7) (xeVar 8) (xeC (.int 1))))) (xsRet (xeBi bTuple (xeCons (xeLc [9] (xiSeq (xeVar 4)) (.nm 9) tYes (xeBi bTuple (xeCons (xeVar 9) xeNil))) xeNil))))))
theorem xm1 : x1 = m1 := by
  unfold x1 m1
  simp only [xsPass_, xsSeq_, xsRet_, xsAsg_, xsPar_, xsIf_, xsFor_, xsAug2_, xsPut_, xeVar_, xeC_, xeBin_, xeNeg_, xeCmp_, xeIf_, xeNot_, xeNil_, xeCons_, xeTup_, xeLst_, xeDct_, xeIdx_, xeCall_, xeBi_, xeCnt_, xeLc_, xiSeq_, xiRange1_, xiEnum_, xiZip_, xtCmp_, xtTru_, xtNot_, xtAnd_, xtOr_]
def x2 : SM := (xsSeq (xsAsg [] (.nm 1) (xeCall 1 (xeCons (xeVar 0) xeNil))) (xsRet (xeLc [3] (xiRange1 (xeIdx (xeVar 0) (xeC (.int 0)))) (.nm 3) tYes (xeBi bTuple (xeCons (xeLc [2] (xiSeq (xeVar 1)) (.nm 2) tYes (xeIdx (xeVar 2) (xeVar 3))) xeNil)))))
theorem xm2 : x2 = m2 := by
  unfold x2 m2
  simp only [xsPass_, xsSeq_, xsRet_, xsAsg_, xsPar_, xsIf_, xsFor_, xsAug2_, xsPut_, xeVar_, xeC_, xeBin_, xeNeg_, xeCmp_, xeIf_, xeNot_, xeNil_, xeCons_, xeTup_, xeLst_, xeDct_, xeIdx_, xeCall_, xeBi_, xeCnt_, xeLc_, xiSeq_, xiRange1_, xiEnum_, xiZip_, xtCmp_, xtTru_, xtNot_, xtAnd_, xtOr_]
def x3 : SM := (xsRet (xeBi bSum (xeCons (xeLc [2, 3] (xiZip (xeVar 0) (xeVar 1)) (.tp [2, 3]) tYes (xeBin .Mult (xeVar 2) (xeVar 3))) xeNil)))
theorem xm3 : x3 = m3 := by
  unfold x3 m3
  simp only [xsPass_, xsSeq_, xsRet_, xsAsg_, xsPar_, xsIf_, xsFor_, xsAug2_, xsPut_, xeVar_, xeC_, xeBin_, xeNeg_, xeCmp_, xeIf_, xeNot_, xeNil_, xeCons_, xeTup_, xeLst_, xeDct_, xeIdx_, xeCall_, xeBi_, xeCnt_, xeLc_, xiSeq_, xiRange1_, xiEnum_, xiZip_, xtCmp_, xtTru_, xtNot_, xtAnd_, xtOr_]
def x4 : SM := (xsRet (xeBi bTuple (xeCons (xeLc [2] (xiSeq (xeCall 1 (xeCons (xeVar 0) xeNil))) (.nm 2) tYes (xeCall 3 (xeCons (xeVar 2) (xeCons (xeVar 1) xeNil)))) xeNil)))
theorem xm4 : x4 = m4 := by
  unfold x4 m4
  simp only [xsPass_, xsSeq_, xsRet_, xsAsg_, xsPar_, xsIf_, xsFor_, xsAug2_, xsPut_, xeVar_, xeC_, xeBin_, xeNeg_, xeCmp_, xeIf_, xeNot_, xeNil_, xeCons_, xeTup_, xeLst_, xeDct_, xeIdx_, xeCall_, xeBi_, xeCnt_, xeLc_, xiSeq_, xiRange1_, xiEnum_, xiZip_, xtCmp_, xtTru_, xtNot_, xtAnd_, xtOr_]
def x5 : SM := (xsRet (xeBi bTuple (xeCons (xeLc [2] (xiSeq (xeCall 2 (xeCons (xeVar 0) xeNil))) (.nm 2) tYes (xeCall 3 (xeCons (xeVar 2) (xeCons (xeVar 1) xeNil)))) xeNil)))
theorem xm5 : x5 = m5 := by
  unfold x5 m5
  simp only [xsPass_, xsSeq_, xsRet_, xsAsg_, xsPar_, xsIf_, xsFor_, xsAug2_, xsPut_, xeVar_, xeC_, xeBin_, xeNeg_, xeCmp_, xeIf_, xeNot_, xeNil_, xeCons_, xeTup_, xeLst_, xeDct_, xeIdx_, xeCall_, xeBi_, xeCnt_, xeLc_, xiSeq_, xiRange1_, xiEnum_, xiZip_, xtCmp_, xtTru_, xtNot_, xtAnd_, xtOr_]
def x6 : SM := (xsRet (xeCall 3 (xeCons (xeVar 0) (xeCons (xeVar 1) xeNil))))
theorem xm6 : x6 = m6 := by
  unfold x6 m6
  simp only [xsPass_, xsSeq_, xsRet_, xsAsg_, xsPar_, xsIf_, xsFor_, xsAug2_, xsPut_, xeVar_, xeC_, xeBin_, xeNeg_, xeCmp_, xeIf_, xeNot_, xeNil_, xeCons_, xeTup_, xeLst_, xeDct_, xeIdx_, xeCall_, xeBi_, xeCnt_, xeLc_, xiSeq_, xiRange1_, xiEnum_, xiZip_, xtCmp_, xtTru_, xtNot_, xtAnd_, xtOr_]
def x7 : SM := (xsRet (xeBi bTuple (xeCons (xeLc [3] (xiRange1 (xeIdx (xeVar 0) (xeC (.int 1)))) (.nm 3) tYes (xeBi bLen (xeCons (xeLc [2] (xiSeq (xeVar 1)) (.nm 2) (xtCmp .Eq (xeVar 2) (xeVar 3)) (xeVar 2)) xeNil))) xeNil)))
theorem xm7 : x7 = m7 := by
  unfold x7 m7
  simp only [xsPass_, xsSeq_, xsRet_, xsAsg_, xsPar_, xsIf_, xsFor_, xsAug2_, xsPut_, xeVar_, xeC_, xeBin_, xeNeg_, xeCmp_, xeIf_, xeNot_, xeNil_, xeCons_, xeTup_, xeLst_, xeDct_, xeIdx_, xeCall_, xeBi_, xeCnt_, xeLc_, xiSeq_, xiRange1_, xiEnum_, xiZip_, xtCmp_, xtTru_, xtNot_, xtAnd_, xtOr_]
def x8 : SM := (xsRet (xeNot (xeBi bAny (xeCons (xeIf (xtCmp .Eq (xeVar 1) (xeC (.str "weights"))) (xeCall 4 (xeCons (xeVar 0) (xeCons (xeVar 2) xeNil))) (xeCall 5 (xeCons (xeVar 0) (xeCons (xeVar 2) xeNil)))) xeNil))))
theorem xm8 : x8 = m8 := by
  unfold x8 m8
  simp only [xsPass_, xsSeq_, xsRet_, xsAsg_, xsPar_, xsIf_, xsFor_, xsAug2_, xsPut_, xeVar_, xeC_, xeBin_, xeNeg_, xeCmp_, xeIf_, xeNot_, xeNil_, xeCons_, xeTup_, xeLst_, xeDct_, xeIdx_, xeCall_, xeBi_, xeCnt_, xeLc_, xiSeq_, xiRange1_, xiEnum_, xiZip_, xtCmp_, xtTru_, xtNot_, xtAnd_, xtOr_]
def x12 : SM := (xsRet (xeIdx (xeVar 1) (xeCall 11 (xeCons (xeVar 0) (xeCons (xeBi bLen (xeCons (xeVar 1) xeNil)) xeNil)))))
theorem xm12 : x12 = m12 := by
  unfold x12 m12
  simp only [xsPass_, xsSeq_, xsRet_, xsAsg_, xsPar_, xsIf_, xsFor_, xsAug2_, xsPut_, xeVar_, xeC_, xeBin_, xeNeg_, xeCmp_, xeIf_, xeNot_, xeNil_, xeCons_, xeTup_, xeLst_, xeDct_, xeIdx_, xeCall_, xeBi_, xeCnt_, xeLc_, xiSeq_, xiRange1_, xiEnum_, xiZip_, xtCmp_, xtTru_, xtNot_, xtAnd_, xtOr_]
def x13 : SM := (xsSeq (xsPar [7] [3, 4, 5] (xeCons (xeBin .Add (xeC (.int 1)) (xeCall 11 (xeCons (xeVar 0) (xeCons (xeVar 1) xeNil)))) (xeCons (xeBin .Add (xeC (.int 1)) (xeCall 11 (xeCons (xeVar 0) (xeCons (xeVar 2) xeNil)))) (xeCons (xeCall 11 (xeCons (xeVar 0) (xeCons (xeC (.int 4)) xeNil))) xeNil)))) (xsSeq (xsPar [7] [6, 7] (xeCons (xeBin .Add (xeC (.int 2)) (xeCall 11 (xeCons (xeVar 0) (xeCons (xeC (.int 4)) xeNil)))) (xeCons (xeDct true) xeNil))) (xsSeq (xsFor [7] (xiRange1 (xeVar 3)) (.nm 8) (xsFor [7] (xiRange1 (xeVar 4)) (.nm 9) (xsSeq (xsIf (xtCmp .Eq (xeCall 11 (xeCons (xeVar 0) (xeCons (xeVar 6) xeNil))) (xeC (.int 0))) (xsPut 0 7 (xeTup (xeCons (xeC (.int 0)) (xeCons (xeVar 8) (xeCons (xeVar 9) xeNil)))) (xeC (.bl true))) xsPass) (xsIf (xtCmp .Eq (xeCall 11 (xeCons (xeVar 0) (xeCons (xeVar 6) xeNil))) (xeC (.int 0))) (xsPut 0 7 (xeTup (xeCons (xeC (.int 1)) (xeCons (xeVar 9) (xeCons (xeVar 8) xeNil)))) (xeC (.bl true))) xsPass)))) (xsSeq (xsFor [7] (xiRange1 (xeIf (xtCmp .Lt (xeVar 5) (xeC (.int 2))) (xeVar 4) (xeC (.int 0)))) (.nm 9) (xsSeq (xsPut 0 7 (xeTup (xeCons (xeC (.int 0)) (xeCons (xeCall 11 (xeCons (xeVar 0) (xeCons (xeVar 3) xeNil))) (xeCons (xeVar 9) xeNil)))) (xeC (.bl true))) (xsPut 0 7 (xeTup (xeCons (xeC (.int 1)) (xeCons (xeVar 9) (xeCons (xeCall 11 (xeCons (xeVar 0) (xeCons (xeVar 3) xeNil))) xeNil)))) (xeC (.bl true))))) (xsSeq (xsFor [7] (xiRange1 (xeIf (xtCmp .Eq (xeVar 5) (xeC (.int 2))) (xeVar 4) (xeC (.int 0)))) (.nm 9) (xsSeq (xsPut 0 7 (xeTup (xeCons (xeC (.int 0)) (xeCons (xeBin .Mod (xeBi bInt (xeCons (xeVar 9) xeNil)) (xeVar 3)) (xeCons (xeVar 9) xeNil)))) (xeC (.bl true))) (xsPut 0 7 (xeTup (xeCons (xeC (.int 1)) (xeCons (xeVar 9) (xeCons (xeBin .Mod (xeBi bInt (xeCons (xeBin .Add (xeVar 9) (xeC (.int 1))) xeNil)) (xeVar 3)) xeNil)))) (xeC (.bl true))))) (xsRet (xeTup (xeCons (xeVar 3) (xeCons (xeVar 4) (xeCons (xeBi bTuple (xeCons (xeBi bSorted (xeCons (xeBi bList (xeCons (xeVar 7) xeNil)) xeNil)) xeNil)) xeNil))))))))))
theorem xm13 : x13 = m13 := by
  unfold x13 m13
  simp only [xsPass_, xsSeq_, xsRet_, xsAsg_, xsPar_, xsIf_, xsFor_, xsAug2_, xsPut_, xeVar_, xeC_, xeBin_, xeNeg_, xeCmp_, xeIf_, xeNot_, xeNil_, xeCons_, xeTup_, xeLst_, xeDct_, xeIdx_, xeCall_, xeBi_, xeCnt_, xeLc_, xiSeq_, xiRange1_, xiEnum_, xiZip_, xtCmp_, xtTru_, xtNot_, xtAnd_, xtOr_]
def x15 : SM := (xsRet (xeBi bTuple (xeCons (xeLc [2] (xiRange1 (xeIdx (xeVar 0) (xeC (.int 1)))) (.nm 2) tYes (xeBi bTuple (xeCons (xeLc [1] (xiRange1 (xeIdx (xeVar 0) (xeC (.int 0)))) (.nm 1) tYes (xeCall 14 (xeCons (xeVar 0) (xeCons (xeVar 2) (xeCons (xeVar 1) xeNil))))) xeNil))) xeNil)))
theorem xm15 : x15 = m15 := by
  unfold x15 m15
  simp only [xsPass_, xsSeq_, xsRet_, xsAsg_, xsPar_, xsIf_, xsFor_, xsAug2_, xsPut_, xeVar_, xeC_, xeBin_, xeNeg_, xeCmp_, xeIf_, xeNot_, xeNil_, xeCons_, xeTup_, xeLst_, xeDct_, xeIdx_, xeCall_, xeBi_, xeCnt_, xeLc_, xiSeq_, xiRange1_, xiEnum_, xiZip_, xtCmp_, xtTru_, xtNot_, xtAnd_, xtOr_]
def x16 : SM := (xsRet (xeBi bTuple (xeCons (xeLc [4] (xiSeq (xeCall 15 (xeCons (xeVar 0) xeNil))) (.nm 4) tYes (xeBi bSum (xeCons (xeLc [2, 3] (xiZip (xeVar 1) (xeVar 4)) (.tp [2, 3]) tYes (xeBin .Mult (xeVar 2) (xeVar 3))) xeNil))) xeNil)))
theorem xm16 : x16 = m16 := by
  unfold x16 m16
  simp only [xsPass_, xsSeq_, xsRet_, xsAsg_, xsPar_, xsIf_, xsFor_, xsAug2_, xsPut_, xeVar_, xeC_, xeBin_, xeNeg_, xeCmp_, xeIf_, xeNot_, xeNil_, xeCons_, xeTup_, xeLst_, xeDct_, xeIdx_, xeCall_, xeBi_, xeCnt_, xeLc_, xiSeq_, xiRange1_, xiEnum_, xiZip_, xtCmp_, xtTru_, xtNot_, xtAnd_, xtOr_]
def x17 : SM := (xsSeq (xsAsg [] (.nm 2) (xeCall 15 (xeCons (xeVar 0) xeNil))) (xsRet (xeBi bTuple (xeCons (xeLc [5] (xiRange1 (xeIdx (xeVar 0) (xeC (.int 0)))) (.nm 5) tYes (xeBi bSum (xeCons (xeLc [3, 4] (xiZip (xeVar 1) (xeVar 2)) (.tp [3, 4]) tYes (xeBin .Mult (xeVar 3) (xeIdx (xeVar 4) (xeVar 5)))) xeNil))) xeNil))))
theorem xm17 : x17 = m17 := by
  unfold x17 m17
  simp only [xsPass_, xsSeq_, xsRet_, xsAsg_, xsPar_, xsIf_, xsFor_, xsAug2_, xsPut_, xeVar_, xeC_, xeBin_, xeNeg_, xeCmp_, xeIf_, xeNot_, xeNil_, xeCons_, xeTup_, xeLst_, xeDct_, xeIdx_, xeCall_, xeBi_, xeCnt_, xeLc_, xiSeq_, xiRange1_, xiEnum_, xiZip_, xtCmp_, xtTru_, xtNot_, xtAnd_, xtOr_]
def x18 : SM := (xsRet (xeCmp .Eq (xeLc [3] (xiRange1 (xeIdx (xeVar 0) (xeC (.int 0)))) (.nm 3) (xtAnd (xtCmp .In (xeTup (xeCons (xeC (.int 0)) (xeCons (xeVar 3) (xeCons (xeVar 2) xeNil)))) (xeIdx (xeVar 0) (xeC (.int 2)))) (xtCmp .Eq (xeIdx (xeVar 1) (xeVar 3)) (xeC (.int 0)))) (xeVar 3)) (xeLst xeNil)))
theorem xm18 : x18 = m18 := by
  unfold x18 m18
  simp only [xsPass_, xsSeq_, xsRet_, xsAsg_, xsPar_, xsIf_, xsFor_, xsAug2_, xsPut_, xeVar_, xeC_, xeBin_, xeNeg_, xeCmp_, xeIf_, xeNot_, xeNil_, xeCons_, xeTup_, xeLst_, xeDct_, xeIdx_, xeCall_, xeBi_, xeCnt_, xeLc_, xiSeq_, xiRange1_, xiEnum_, xiZip_, xtCmp_, xtTru_, xtNot_, xtAnd_, xtOr_]
def x19 : SM := (xsRet (xeBi bTuple (xeCons (xeLc [3, 4] (xiEnum (xeVar 1)) (.tp [3, 4]) tYes (xeBin .Add (xeVar 4) (xeCall 14 (xeCons (xeVar 0) (xeCons (xeVar 2) (xeCons (xeVar 3) xeNil)))))) xeNil)))
theorem xm19 : x19 = m19 := by
  unfold x19 m19
  simp only [xsPass_, xsSeq_, xsRet_, xsAsg_, xsPar_, xsIf_, xsFor_, xsAug2_, xsPut_, xeVar_, xeC_, xeBin_, xeNeg_, xeCmp_, xeIf_, xeNot_, xeNil_, xeCons_, xeTup_, xeLst_, xeDct_, xeIdx_, xeCall_, xeBi_, xeCnt_, xeLc_, xiSeq_, xiRange1_, xiEnum_, xiZip_, xtCmp_, xtTru_, xtNot_, xtAnd_, xtOr_]
def x20 : SM := (xsSeq (xsAsg [] (.nm 4) (xeTup xeNil)) (xsSeq (xsFor [] (xiRange1 (xeVar 3)) (.nm 5) (xsSeq (xsAsg [] (.nm 6) (xeLc [7] (xiRange1 (xeIdx (xeVar 1) (xeC (.int 1)))) (.nm 7) (xtTru (xeCall 18 (xeCons (xeVar 1) (xeCons (xeVar 2) (xeCons (xeVar 7) xeNil))))) (xeVar 7))) (xsSeq (xsIf (xtCmp .Eq (xeVar 6) (xeLst xeNil)) (xsRet (xeTup (xeCons (xeVar 4) (xeCons (xeVar 2) xeNil)))) xsPass) (xsSeq (xsAsg [] (.nm 7) (xeCall 12 (xeCons (xeVar 0) (xeCons (xeVar 6) xeNil)))) (xsAsg [] (.tp [4, 2]) (xeTup (xeCons (xeBin .Add (xeVar 4) (xeTup (xeCons (xeVar 7) xeNil))) (xeCons (xeCall 19 (xeCons (xeVar 1) (xeCons (xeVar 2) (xeCons (xeVar 7) xeNil)))) xeNil)))))))) (xsRet (xeTup (xeCons (xeVar 4) (xeCons (xeVar 2) xeNil))))))
theorem xm20 : x20 = m20 := by
  unfold x20 m20
  simp only [xsPass_, xsSeq_, xsRet_, xsAsg_, xsPar_, xsIf_, xsFor_, xsAug2_, xsPut_, xeVar_, xeC_, xeBin_, xeNeg_, xeCmp_, xeIf_, xeNot_, xeNil_, xeCons_, xeTup_, xeLst_, xeDct_, xeIdx_, xeCall_, xeBi_, xeCnt_, xeLc_, xiSeq_, xiRange1_, xiEnum_, xiZip_, xtCmp_, xtTru_, xtNot_, xtAnd_, xtOr_]
def x21 : SM := (xsRet (xeBi bTuple (xeCons (xeLc [3] (xiRange1 (xeVar 1)) (.nm 3) tYes (xeCall 11 (xeCons (xeVar 0) (xeCons (xeVar 2) xeNil)))) xeNil)))
theorem xm21 : x21 = m21 := by
  unfold x21 m21
  simp only [xsPass_, xsSeq_, xsRet_, xsAsg_, xsPar_, xsIf_, xsFor_, xsAug2_, xsPut_, xeVar_, xeC_, xeBin_, xeNeg_, xeCmp_, xeIf_, xeNot_, xeNil_, xeCons_, xeTup_, xeLst_, xeDct_, xeIdx_, xeCall_, xeBi_, xeCnt_, xeLc_, xiSeq_, xiRange1_, xiEnum_, xiZip_, xtCmp_, xtTru_, xtNot_, xtAnd_, xtOr_]
def x22 : SM := (xsSeq (xsFor [] (xiRange1 (xeC (.int 5))) (.nm 2) (xsSeq (xsAsg [] (.nm 3) (xeCall 13 (xeCons (xeVar 1) (xeCons (xeIdx (xeLst (xeCons (xeC (.int 3)) (xeCons (xeC (.int 5)) (xeCons (xeC (.int 6)) (xeCons (xeC (.int 7)) (xeCons (xeC (.int 7)) xeNil)))))) (xeVar 2)) (xeCons (xeIdx (xeLst (xeCons (xeC (.int 3)) (xeCons (xeC (.int 5)) (xeCons (xeC (.int 6)) (xeCons (xeC (.int 7)) (xeCons (xeC (.int 7)) xeNil)))))) (xeVar 2)) xeNil))))) (xsSeq (xsPar [] [4, 5, 6] (xeCons (xeBi bRepr (xeCons (xeVar 3) xeNil)) (xeCons (xeCall 15 (xeCons (xeVar 3) xeNil)) (xeCons (xeIdx (xeVar 3) (xeC (.int 0))) xeNil)))) (xsSeq (xsIf (xtCmp .NotEq (xeBi bRepr (xeCons (xeCall 1 (xeCons (xeVar 3) xeNil)) xeNil)) (xeBi bRepr (xeCons (xeVar 5) xeNil))) (xsRet (xeC (.bl false))) xsPass) (xsSeq (xsAsg [] (.nm 7) (xeBi bTuple (xeCons (xeLc [8] (xiRange1 (xeVar 6)) (.nm 8) tYes (xeBin .Sub (xeCall 11 (xeCons (xeVar 1) (xeCons (xeC (.int 9)) xeNil))) (xeC (.int 4)))) xeNil))) (xsSeq (xsAsg [] (.nm 9) (xeBi bTuple (xeCons (xeLc [10] (xiRange1 (xeIdx (xeVar 3) (xeC (.int 1)))) (.nm 10) tYes (xeBin .Sub (xeCall 11 (xeCons (xeVar 1) (xeCons (xeC (.int 9)) xeNil))) (xeC (.int 4)))) xeNil))) (xsSeq (xsAsg [] (.tp [7, 9]) (xeIf (xtCmp .Gt (xeCall 11 (xeCons (xeVar 1) (xeCons (xeC (.int 4)) xeNil))) (xeC (.int 0))) (xeTup (xeCons (xeVar 7) (xeCons (xeVar 9) xeNil))) (xeTup (xeCons (xeBin .Mult (xeTup (xeCons (xeC (.int 0)) xeNil)) (xeVar 6)) (xeCons (xeBin .Mult (xeTup (xeCons (xeC (.int 0)) xeNil)) (xeIdx (xeVar 3) (xeC (.int 1)))) xeNil))))) (xsSeq (xsPar [] [11, 12] (xeCons (xeLst (xeCons (xeCall 4 (xeCons (xeVar 3) (xeCons (xeVar 7) xeNil))) (xeCons (xeCall 5 (xeCons (xeVar 3) (xeCons (xeVar 9) xeNil))) xeNil))) (xeCons (xeLst (xeCons (xeCall 16 (xeCons (xeVar 3) (xeCons (xeVar 7) xeNil))) (xeCons (xeCall 17 (xeCons (xeVar 3) (xeCons (xeVar 9) xeNil))) xeNil))) xeNil))) (xsSeq (xsIf (xtCmp .NotEq (xeBi bRepr (xeCons (xeVar 11) xeNil)) (xeBi bRepr (xeCons (xeVar 12) xeNil))) (xsRet (xeC (.bl false))) xsPass) (xsSeq (xsAsg [] (.nm 13) (xeLst (xeCons (xeCmp .Eq (xeIdx (xeVar 12) (xeC (.int 0))) (xeBin .Mult (xeTup (xeCons (xeC (.int 0)) xeNil)) (xeIdx (xeVar 3) (xeC (.int 1))))) (xeCons (xeCmp .Eq (xeIdx (xeVar 12) (xeC (.int 1))) (xeBin .Mult (xeTup (xeCons (xeC (.int 0)) xeNil)) (xeVar 6))) xeNil)))) (xsSeq (xsIf (xtCmp .NotEq (xeBi bRepr (xeCons (xeLst (xeCons (xeCall 8 (xeCons (xeVar 3) (xeCons (xeC (.str "weights")) (xeCons (xeVar 7) xeNil)))) (xeCons (xeCall 8 (xeCons (xeVar 3) (xeCons (xeC (.str "counts")) (xeCons (xeVar 9) xeNil)))) xeNil))) xeNil)) (xeBi bRepr (xeCons (xeVar 13) xeNil))) (xsRet (xeC (.bl false))) xsPass) (xsSeq (xsIf (xtCmp .NotEq (xeBi bSum (xeCons (xeLc [14, 15] (xiZip (xeVar 7) (xeIdx (xeVar 12) (xeC (.int 1)))) (.tp [14, 15]) tYes (xeBin .Mult (xeVar 14) (xeVar 15))) xeNil)) (xeBi bSum (xeCons (xeLc [14, 15] (xiZip (xeVar 9) (xeIdx (xeVar 12) (xeC (.int 0)))) (.tp [14, 15]) tYes (xeBin .Mult (xeVar 14) (xeVar 15))) xeNil))) (xsRet (xeC (.bl false))) xsPass) (xsSeq (xsAsg [] (.nm 16) (xeCall 21 (xeCons (xeVar 1) (xeCons (xeVar 6) (xeCons (xeC (.int 5)) xeNil))))) (xsSeq (xsAsg [] (.tp [17, 18]) (xeCall 20 (xeCons (xeVar 1) (xeCons (xeVar 3) (xeCons (xeVar 16) (xeCons (xeC (.int 12)) xeNil)))))) (xsSeq (xsAsg [] (.nm 11) (xeCall 7 (xeCons (xeVar 3) (xeCons (xeVar 17) xeNil)))) (xsSeq (xsIf (xtCmp .NotEq (xeBi bRepr (xeCons (xeVar 11) xeNil)) (xeBi bRepr (xeCons (xeBi bTuple (xeCons (xeLc [10] (xiRange1 (xeIdx (xeVar 3) (xeC (.int 1)))) (.nm 10) tYes (xeCnt (xeBi bList (xeCons (xeVar 17) xeNil)) (xeVar 10))) xeNil)) xeNil))) (xsRet (xeC (.bl false))) xsPass) (xsSeq (xsIf (xtCmp .NotEq (xeBi bTuple (xeCons (xeLc [14, 15] (xiZip (xeVar 16) (xeCall 5 (xeCons (xeVar 3) (xeCons (xeVar 11) xeNil)))) (.tp [14, 15]) tYes (xeBin .Add (xeVar 14) (xeVar 15))) xeNil)) (xeVar 18)) (xsRet (xeC (.bl false))) xsPass) (xsSeq (xsAsg [] (.nm 19) (xeLst (xeCons (xeCall 6 (xeCons (xeVar 7) (xeCons (xeVar 16) xeNil))) (xeCons (xeCall 6 (xeCons (xeVar 7) (xeCons (xeVar 18) xeNil))) xeNil)))) (xsSeq (xsAsg [] (.nm 20) (xeLc [21] (xiSeq (xeTup (xeCons (xeVar 16) (xeCons (xeVar 18) xeNil)))) (.nm 21) tYes (xeBi bSum (xeCons (xeLc [14, 15] (xiZip (xeVar 7) (xeVar 21)) (.tp [14, 15]) tYes (xeBin .Mult (xeVar 14) (xeVar 15))) xeNil)))) (xsIf (xtOr (xtCmp .NotEq (xeBi bRepr (xeCons (xeVar 19) xeNil)) (xeBi bRepr (xeCons (xeVar 20) xeNil))) (xtOr (xtAnd (xtTru (xeIdx (xeVar 13) (xeC (.int 0)))) (xtCmp .NotEq (xeIdx (xeVar 19) (xeC (.int 0))) (xeIdx (xeVar 19) (xeC (.int 1))))) (xtCmp .NotEq (xeBi bRepr (xeCons (xeVar 3) xeNil)) (xeVar 4)))) (xsRet (xeC (.bl false))) xsPass)))))))))))))))))))) (xsSeq (xsAsg [] (.nm 3) (xeTup (xeCons (xeC (.int 3)) (xeCons (xeC (.int 2)) (xeCons (xeTup (xeCons (xeTup (xeCons (xeC (.int 0)) (xeCons (xeC (.int 0)) (xeCons (xeC (.int 0)) xeNil)))) (xeCons (xeTup (xeCons (xeC (.int 0)) (xeCons (xeC (.int 1)) (xeCons (xeC (.int 1)) xeNil)))) (xeCons (xeTup (xeCons (xeC (.int 1)) (xeCons (xeC (.int 0)) (xeCons (xeC (.int 1)) xeNil)))) (xeCons (xeTup (xeCons (xeC (.int 1)) (xeCons (xeC (.int 0)) (xeCons (xeC (.int 2)) xeNil)))) (xeCons (xeTup (xeCons (xeC (.int 1)) (xeCons (xeC (.int 1)) (xeCons (xeC (.int 0)) xeNil)))) xeNil)))))) xeNil))))) (xsSeq (xsAsg [] (.nm 11) (xeLst (xeCons (xeCall 1 (xeCons (xeVar 3) xeNil)) (xeCons (xeCall 4 (xeCons (xeVar 3) (xeCons (xeTup (xeCons (xeC (.int 1)) (xeCons (xeC (.int 1)) (xeCons (xeC (.int 1)) xeNil)))) xeNil))) (xeCons (xeCall 5 (xeCons (xeVar 3) (xeCons (xeTup (xeCons (xeC (.int 1)) (xeCons (xeC (.int 1)) xeNil))) xeNil))) (xeCons (xeCall 8 (xeCons (xeVar 3) (xeCons (xeC (.str "weights")) (xeCons (xeTup (xeCons (xeC (.int 1)) (xeCons (xeC (.int 1)) (xeCons (xeC (.int 0)) xeNil)))) xeNil)))) xeNil)))))) (xsRet (xeCmp .Eq (xeBi bRepr (xeCons (xeVar 11) xeNil)) (xeBi bRepr (xeCons (xeLst (xeCons (xeTup (xeCons (xeTup (xeCons (xeNeg (xeC (.int 1))) (xeCons (xeC (.int 1)) (xeCons (xeC (.int 1)) xeNil)))) (xeCons (xeTup (xeCons (xeC (.int 1)) (xeCons (xeNeg (xeC (.int 1))) (xeCons (xeC (.int 0)) xeNil)))) xeNil))) (xeCons (xeTup (xeCons (xeC (.int 1)) (xeCons (xeC (.int 0)) xeNil))) (xeCons (xeTup (xeCons (xeC (.int 0)) (xeCons (xeC (.int 0)) (xeCons (xeC (.int 1)) xeNil)))) (xeCons (xeC (.bl true)) xeNil))))) xeNil)))))))
theorem xm22 : x22 = m22 := by
  unfold x22 m22
  simp only [xsPass_, xsSeq_, xsRet_, xsAsg_, xsPar_, xsIf_, xsFor_, xsAug2_, xsPut_, xeVar_, xeC_, xeBin_, xeNeg_, xeCmp_, xeIf_, xeNot_, xeNil_, xeCons_, xeTup_, xeLst_, xeDct_, xeIdx_, xeCall_, xeBi_, xeCnt_, xeLc_, xiSeq_, xiRange1_, xiEnum_, xiZip_, xtCmp_, xtTru_, xtNot_, xtAnd_, xtOr_]
theorem c15' {n : Nat} {xs : List D} {s : Src} : callN ents (n + 1) 15 xs s = runDef ⟨callN ents n⟩ ⟨1, 3, x15⟩ xs s := by rw [xm15]; rfl
theorem C15 {n p d : Nat} {A : List Ar} {s : Src} (hp : p ≤ 1000) (hd : d ≤ 1000) : callN ents (n + 2) 15 [netD p d A] s = .ok (.tup ((effs p d A).map tupI)) s := by
  rw [c15']
  refine run_rt rfl (es_ret (ev_bi (ev_cons (ev_lc (ys := (List.range d).map fun t => tupI ((List.range p).map fun q => eff A t q)) (ev_range (n := d) (ev_idx (ev_var rfl) ev_c rfl) (okR_nat hd)) ?_) ev_nil) (by simp [bTuple, effs, Function.comp_def])))
  rw [rangeL0]
  refine lc_mapA _ _ fun t _ => ⟨_, rfl, rfl, ?_⟩
  refine ev_bi (ev_cons (ev_lc (ys := (List.range p).map fun q => .int (eff A t q)) (ev_range (n := p) (ev_idx (ev_var rfl) ev_c rfl) (okR_nat hp)) ?_) ev_nil) (by simp [bTuple, tupI, Function.comp_def])
  rw [rangeL0]
  exact lc_mapA _ _ fun q _ => ⟨_, rfl, rfl, ev_call (ev_cons (ev_var rfl) (ev_cons (ev_var rfl) (ev_cons (ev_var rfl) ev_nil))) C14⟩
theorem c3' {n : Nat} {xs : List D} {s : Src} : callN ents (n + 1) 3 xs s = runDef ⟨callN ents n⟩ ⟨2, 4, x3⟩ xs s := by rw [xm3]; rfl
theorem sum_map {α : Type} (l : List α) (f : α → Int) : bSum [.lst (l.map fun a => D.int (f a))] = some (.int (l.map f).sum) := by
  have e : (l.map fun a => D.int (f a)) = (l.map f).map D.int := by simp [Function.comp_def]
  simp only [bSum, e, ints_map, Option.map_some]
theorem C3 {n : Nat} {a b : List Int} {s : Src} (h : ∀ x ∈ a, ∀ y ∈ b, (small64 x || small64 y) = true) : callN ents (n + 1) 3 [tupI a, tupI b] s = .ok (.int (dot a b)) s := by
  rw [c3']
  refine run_rt rfl (es_ret (ev_bi (ev_cons (ev_lc (ys := (a.zip b).map fun p => .int (p.1 * p.2)) (ev_zipT (ev_var rfl) (ev_var rfl)) ?_) ev_nil) (sum_map _ _)))
  rw [zipL_map]
  refine lc_mapA _ _ fun p hp => ⟨_, rfl, rfl, ev_bin (ev_var rfl) (ev_var rfl) ?_⟩
  have := h p.1 (List.of_mem_zip hp).1 p.2 (List.of_mem_zip hp).2
  simp [dBin, dMul, this]
/-! effects -/
def mat (d p : Nat) (f : Nat → Nat → Int) : List (List Int) := (List.range d).map fun t => (List.range p).map fun q => f t q
def lstI (l : List Int) : D := .lst (l.map D.int)
def matD (m : List (List Int)) : D := .lst (m.map lstI)
theorem at_matD {d p t : Nat} {f : Nat → Nat → Int} (h : t < d) : atD (matD (mat d p f)) (.int t) = some (t, lstI ((List.range p).map fun q => f t q)) := by
  have : ixN ((mat d p f).map lstI).length (t : Int) = some t := by
    unfold ixN
    simp [mat]
    omega
  simp only [atD, matD, this, Option.bind_some]
  simp [mat, h]
theorem at_lstI {p q : Nat} {f : Nat → Int} (h : q < p) : atD (lstI ((List.range p).map f)) (.int q) = some (q, .int (f q)) := by
  have : ixN (((List.range p).map f).map D.int).length (q : Int) = some q := by
    unfold ixN
    simp
    omega
  simp only [atD, lstI, this, Option.bind_some]
  simp [h]
theorem set_mat {d p t q : Nat} {f : Nat → Nat → Int} {v : Int} (ht : t < d) (hq : q < p) : setD (matD (mat d p f)) t (setD (lstI ((List.range p).map fun q => f t q)) q (.int v)) = matD (mat d p fun t' q' => if t' = t ∧ q' = q then v else f t' q') := by
  have row : ∀ g : Nat → Int, ((List.range p).map g).set q v = (List.range p).map fun q' => if q' = q then v else g q' := by
    intro g
    apply List.ext_getElem
    · simp
    · intro j h3 h4
      simp at h3
      rw [List.getElem_set]
      by_cases hj : q = j
      · subst hj; simp
      · simp [hj, Ne.symm hj]
  have e1 : setD (lstI ((List.range p).map fun q => f t q)) q (.int v) = lstI (((List.range p).map fun q => f t q).set q v) := by simp [setD, lstI, List.map_set]
  rw [e1, row]
  have e2 : ∀ (m : List (List Int)) r, setD (matD m) t (lstI r) = matD (m.set t r) := by intro m r; simp [setD, matD, List.map_set]
  rw [e2]
  congr 1
  simp only [mat]
  apply List.ext_getElem
  · simp
  · intro i h1 h2
    simp at h1
    rw [List.getElem_set]
    by_cases hi : t = i
    · subst hi; simp
    · simp [hi, Ne.symm hi]
def cnt (L : List Ar) (t q : Nat) : Int := (L.count (1, t, q) : Int) - (L.count (0, q, t) : Int)
structure NetOk (p d : Nat) (A : List Ar) : Prop where
  p1 : 1 ≤ p
  d1 : 1 ≤ d
  p7 : p ≤ 7
  d7 : d ≤ 7
  nd : A.Nodup
  ok : ∀ a ∈ A, (a.1 = 0 ∧ a.2.1 < p ∧ a.2.2 < d) ∨ (a.1 = 1 ∧ a.2.1 < d ∧ a.2.2 < p)
theorem c1' {n : Nat} {xs : List D} {s : Src} : callN ents (n + 1) 1 xs s = runDef ⟨callN ents n⟩ ⟨1, 10, x1⟩ xs s := by rw [xm1]; rfl
theorem C1 {n p d : Nat} {A : List Ar} {s : Src} (h : NetOk p d A) : callN ents (n + 1) 1 [netD p d A] s = .ok (.tup ((effs p d A).map tupI)) s := by
  rw [c1']
  have h7 := h.p7
  have h7' := h.d7
  refine run_rt rfl ?_
  refine es_seq (es_asg (ev_var rfl) rfl) ?_
  have hnx : ∀ (x : D) (e : Lt.Env), Pat.set (.nm 4) x e = some (e.set 4 (some x)) := fun _ _ => rfl
  refine es_seq (s1 := s) (es_asg (x := matD (mat d p fun _ _ => 0)) (ev_lc (s1 := s) (ev_range (n := d) (ev_var rfl) (okR_nat (by omega))) ?_) rfl) ?_
  · rw [rangeL0]
    have e : (mat d p fun _ _ => (0 : Int)).map lstI = (List.range d).map fun _ => lstI ((List.range p).map fun _ => 0) := by simp [mat, Function.comp_def]
    rw [e]
    refine lc_mapA _ _ fun t _ => ⟨_, rfl, rfl, ev_bin (ev_lst (ev_cons ev_c ev_nil)) (ev_var rfl) ?_⟩
    have e2 : (List.replicate p [D.int 0]).flatten = (List.range p).map fun _ => D.int 0 := by
      have : ∀ k, (List.replicate k [D.int 0]).flatten = List.replicate k (D.int 0) := by
        intro k; induction k with
        | zero => rfl
        | succ k ih => rw [List.replicate_succ, List.flatten_cons, ih, List.replicate_succ]; rfl
      rw [this]; simp [List.map_const']
    have hb : (p : Int).natAbs ≤ big := by have : big = 1000000 := rfl; omega
    have hb2 : p ≤ big := by have : big = 1000000 := rfl; omega
    show dMul (.lst [.int 0]) (.int p) = _
    simp [dMul, hb, hb2, repL, e2, lstI, Function.comp_def]
  · have cn : ∀ (L : List Ar) (ar : Ar) (t q : Nat), cnt (L ++ [ar]) t q = cnt L t q + (if ar = (1, t, q) then 1 else 0) - (if ar = (0, q, t) then 1 else 0) := by
      intro L ar t q
      simp only [cnt, List.count_append, List.count_singleton, beq_iff_eq]
      split <;> split <;> simp <;> omega
    obtain ⟨o, s', h1, h2⟩ := for_inv (R := ⟨callN ents n⟩) (p := .tp [6, 7, 8]) (b := xsIf (xtCmp .Eq (xeVar 6) (xeC (.int 0))) (xsAug2 .Sub 4 (xeVar 8) (xeVar 7) (xeC (.int 1))) (xsAug2 .Add 4 (xeVar 7) (xeVar 8) (xeC (.int 1)))) (ds := A.map arD)
      (fun k env s' => s' = s ∧ ∃ a b c, env = [some (netD p d A), some (.int p), some (.int d), some (.tup (A.map arD)), some (matD (mat d p (cnt (A.take k)))), none, a, b, c, none]) (fun _ _ => False) 0
      (env := [some (netD p d A), some (.int p), some (.int d), some (.tup (A.map arD)), some (matD (mat d p fun _ _ => 0)), none, none, none, none, none]) (s := s) ⟨rfl, none, none, none, by simp [cnt]; rfl⟩ (by
        rintro i x hx env s' ⟨rfl, a, b, c, rfl⟩
        rw [List.getElem?_map] at hx
        obtain ⟨ar, har, rfl⟩ := Option.map_eq_some_iff.mp hx
        rw [Nat.zero_add]
        refine ⟨_, rfl, ?_⟩
        have htk : A.take (i + 1) = A.take i ++ [ar] := by rw [List.take_add_one, har]; rfl
        rw [htk]
        obtain ⟨w, u, v⟩ := ar
        rcases h.ok _ (List.mem_of_getElem? har) with ⟨rfl, hu, hv⟩ | ⟨rfl, hu, hv⟩
        · refine ⟨_, s', es_ift (s1 := s') (et_cmp (ev_var rfl) ev_c rfl) (es_aug2 (s1 := s') (s2 := s') (ie := 1) (iw := cnt (A.take i) v u - 1) rfl (ev_var rfl) (at_matD hv) (ev_var rfl) (at_lstI hu) ev_c rfl rfl), .inl ⟨_, rfl, rfl, some (.int 0), some (.int u), some (.int v), ?_⟩⟩
          have e := set_mat (f := cnt (A.take i)) (v := cnt (A.take i) v u - 1) hv hu
          have : (fun t' q' => if t' = v ∧ q' = u then cnt (A.take i) v u - 1 else cnt (A.take i) t' q') = cnt (A.take i ++ [(0, u, v)]) := by
            funext t' q'
            rw [cn]
            by_cases hh : t' = v ∧ q' = u
            · obtain ⟨rfl, rfl⟩ := hh; simp
            · rw [if_neg hh]
              have : ¬ ((0 : Nat), u, v) = (0, q', t') := by simp; intro e1 e2; exact hh ⟨e2.symm, e1.symm⟩
              simp [this]
          rw [this] at e
          exact congrArg (fun m => [some (netD p d A), some (.int p), some (.int d), some (.tup (A.map arD)), some m, none, some (.int 0), some (.int u), some (.int v), none]) e
        · refine ⟨_, s', es_iff (s1 := s') (et_cmp (ev_var rfl) ev_c rfl) (es_aug2 (s1 := s') (s2 := s') (ie := 1) (iw := cnt (A.take i) u v + 1) rfl (ev_var rfl) (at_matD hu) (ev_var rfl) (at_lstI hv) ev_c rfl rfl), .inl ⟨_, rfl, rfl, some (.int 1), some (.int u), some (.int v), ?_⟩⟩
          have e := set_mat (f := cnt (A.take i)) (v := cnt (A.take i) u v + 1) hu hv
          have : (fun t' q' => if t' = u ∧ q' = v then cnt (A.take i) u v + 1 else cnt (A.take i) t' q') = cnt (A.take i ++ [(1, u, v)]) := by
            funext t' q'
            rw [cn]
            by_cases hh : t' = u ∧ q' = v
            · obtain ⟨rfl, rfl⟩ := hh; simp
            · rw [if_neg hh]
              have : ¬ ((1 : Nat), u, v) = (1, t', q') := by simp; intro e1 e2; exact hh ⟨e1.symm, e2.symm⟩
              simp [this]
          rw [this] at e
          exact congrArg (fun m => [some (netD p d A), some (.int p), some (.int d), some (.tup (A.map arD)), some m, none, some (.int 1), some (.int u), some (.int v), none]) e)
    rcases h2 with ⟨env2, rfl, rfl, a, b, c, rfl⟩ | ⟨x, _, hx⟩
    · refine es_seq (es_for (xs := A.map arD) (s1 := s') (ev_seq (ev_var rfl) rfl) h1) ?_
      have hcn : cnt (A.take (0 + (A.map arD).length)) = eff A := by
        funext t q
        simp only [Nat.zero_add, List.length_map, List.take_length, cnt, eff]
        rw [h.nd.count, h.nd.count]
        split <;> split <;> rfl
      rw [hcn]
      refine es_ret (ev_bi (ev_cons (ev_lc (ys := (effs p d A).map tupI) (ev_seq (x := matD (mat d p (eff A))) (s1 := s') (ev_var rfl) rfl) ?_) ev_nil) rfl)
      exact lc_mapA lstI tupI fun r _ => ⟨_, rfl, rfl, ev_bi (ev_cons (ev_var rfl) ev_nil) rfl⟩
    · exact hx.elim
end K26

namespace K26
open PySem L2 Lt
def row (A : List Ar) (p t : Nat) : List Int := (List.range p).map fun q => eff A t q
def col (A : List Ar) (d q : Nat) : List Int := (List.range d).map fun t => eff A t q
theorem effs_row (p d : Nat) (A : List Ar) : effs p d A = (List.range d).map (row A p) := rfl
theorem idx_tupI {l : List Int} {q : Nat} {v : Int} (h : l[q]? = some v) : dIdx (tupI l) (.int q) = some (.int v) := by
  simp only [dIdx, tupI]
  exact atI_nat (by simp [h])
theorem eff_cases (A : List Ar) (t q : Nat) : eff A t q = -1 ∨ eff A t q = 0 ∨ eff A t q = 1 := by
  unfold eff
  split <;> split <;> simp
theorem eff_small (A : List Ar) (t q : Nat) : small64 (eff A t q) = true := by
  rcases eff_cases A t q with h | h | h <;> rw [h] <;> decide
theorem row_small {A : List Ar} {p t : Nat} {x : Int} (h : x ∈ row A p t) : small64 x = true := by
  obtain ⟨q, _, rfl⟩ := List.mem_map.mp h
  exact eff_small A t q
theorem col_small {A : List Ar} {d q : Nat} {x : Int} (h : x ∈ col A d q) : small64 x = true := by
  obtain ⟨t, _, rfl⟩ := List.mem_map.mp h
  exact eff_small A t q
section
variable {n p d : Nat} {A : List Ar} {s : Src}
theorem c2' {xs : List D} : callN ents (n + 1) 2 xs s = runDef ⟨callN ents n⟩ ⟨1, 4, x2⟩ xs s := by rw [xm2]; rfl
theorem C2 (h : NetOk p d A) : callN ents (n + 2) 2 [netD p d A] s = .ok (.lst ((List.range p).map fun q => tupI (col A d q))) s := by
  rw [c2']
  have h7 := h.p7
  refine run_rt rfl ?_
  refine es_seq (s1 := s) (es_asg (ev_call (ev_cons (ev_var rfl) ev_nil) (C1 h)) rfl) ?_
  refine es_ret (ev_lc (s1 := s) (ev_range (n := p) (ev_idx (ev_var rfl) ev_c rfl) (okR_nat (by omega))) ?_)
  rw [rangeL0]
  refine lc_mapA _ _ fun q hq => ⟨_, rfl, rfl, ?_⟩
  refine ev_bi (xs := [.lst ((col A d q).map D.int)]) (ev_cons (ev_lc (s1 := s) (ev_seq (ev_var rfl) rfl) ?_) ev_nil) rfl
  rw [effs_row, List.map_map, show (col A d q).map D.int = (List.range d).map fun t => D.int (eff A t q) by simp [col, Function.comp_def]]
  refine lc_mapA _ _ fun t ht => ⟨_, rfl, rfl, ev_idx (ev_var rfl) (ev_var rfl) (idx_tupI ?_)⟩
  have := List.mem_range.mp hq
  simp [row, this]
theorem c4' {xs : List D} : callN ents (n + 1) 4 xs s = runDef ⟨callN ents n⟩ ⟨2, 3, x4⟩ xs s := by rw [xm4]; rfl
theorem C4 {w : List Int} (h : NetOk p d A) : callN ents (n + 2) 4 [netD p d A, tupI w] s = .ok (tupI ((List.range d).map fun t => dot (row A p t) w)) s := by
  rw [c4']
  refine run_rt rfl (es_ret (ev_bi (xs := [.lst ((List.range d).map fun t => D.int (dot (row A p t) w))]) (ev_cons (ev_lc (s1 := s) (ev_seq (ev_call (ev_cons (ev_var rfl) ev_nil) (C1 h)) rfl) ?_) ev_nil) (by simp [bTuple, tupI, Function.comp_def])))
  rw [effs_row, List.map_map]
  exact lc_mapA _ _ fun t ht => ⟨_, rfl, rfl, ev_call (ev_cons (ev_var rfl) (ev_cons (ev_var rfl) ev_nil)) (C3 fun x hx y _ => by simp [row_small hx])⟩
theorem c5' {xs : List D} : callN ents (n + 1) 5 xs s = runDef ⟨callN ents n⟩ ⟨2, 3, x5⟩ xs s := by rw [xm5]; rfl
theorem C5 {w : List Int} (h : NetOk p d A) : callN ents (n + 3) 5 [netD p d A, tupI w] s = .ok (tupI ((List.range p).map fun q => dot (col A d q) w)) s := by
  rw [c5']
  refine run_rt rfl (es_ret (ev_bi (xs := [.lst ((List.range p).map fun q => D.int (dot (col A d q) w))]) (ev_cons (ev_lc (s1 := s) (ev_seq (ev_call (ev_cons (ev_var rfl) ev_nil) (C2 h)) rfl) ?_) ev_nil) (by simp [bTuple, tupI, Function.comp_def])))
  exact lc_mapA _ _ fun t ht => ⟨_, rfl, rfl, ev_call (ev_cons (ev_var rfl) (ev_cons (ev_var rfl) ev_nil)) (C3 fun x hx y _ => by simp [col_small hx])⟩
theorem c6' {xs : List D} : callN ents (n + 1) 6 xs s = runDef ⟨callN ents n⟩ ⟨2, 2, x6⟩ xs s := by rw [xm6]; rfl
theorem C6 {a b : List Int} (h : ∀ x ∈ a, small64 x = true) : callN ents (n + 2) 6 [tupI a, tupI b] s = .ok (.int (dot a b)) s := by
  rw [c6']
  exact run_rt rfl (es_ret (ev_call (ev_cons (ev_var rfl) (ev_cons (ev_var rfl) ev_nil)) (C3 fun x hx y _ => by simp [h x hx])))
theorem c7' {xs : List D} : callN ents (n + 1) 7 xs s = runDef ⟨callN ents n⟩ ⟨2, 4, x7⟩ xs s := by rw [xm7]; rfl
def told (d : Nat) (r : List Int) : List Int := (List.range d).map fun (t : Nat) => ((r.count (t : Int) : Nat) : Int)
theorem C7 {r : List Int} (h : NetOk p d A) : callN ents (n + 1) 7 [netD p d A, tupI r] s = .ok (tupI (told d r)) s := by
  rw [c7']
  have h7 := h.d7
  refine run_rt rfl (es_ret (ev_bi (xs := [.lst ((List.range d).map fun (t : Nat) => D.int ((r.count (t : Int) : Nat) : Int))]) (ev_cons (ev_lc (s1 := s) (ev_range (n := d) (ev_idx (ev_var rfl) ev_c rfl) (okR_nat (by omega))) ?_) ev_nil) (by simp [bTuple, tupI, told, Function.comp_def])))
  rw [rangeL0]
  refine lc_mapA _ _ fun t ht => ⟨_, rfl, rfl, ?_⟩
  refine ev_bi (xs := [.lst ((r.filter fun i => decide (i = (t : Int))).map D.int)]) (ev_cons (ev_lc (s1 := s) (ev_seq (ev_var rfl) rfl) ?_) ev_nil) ?_
  · exact lc_filtA _ _ _ fun i hi => ⟨_, rfl, et_cmp (ev_var rfl) (ev_var rfl) rfl, fun _ => ev_var rfl⟩
  · simp only [bLen, List.length_map]
    rw [List.count_eq_countP, List.countP_eq_length_filter]
    congr 4
theorem c8' {xs : List D} : callN ents (n + 1) 8 xs s = runDef ⟨callN ents n⟩ ⟨3, 3, x8⟩ xs s := by rw [xm8]; rfl
theorem trus_map (l : List Int) : D.trus (l.map D.int) = some (l.map fun i => i != 0) := by
  induction l with
  | nil => rfl
  | cons a l ih => simp [D.trus, ih]
theorem C8w {w : List Int} (h : NetOk p d A) : callN ents (n + 4) 8 [netD p d A, .str "weights", tupI w] s = .ok (.bl (!(((List.range d).map fun t => dot (row A p t) w).any fun i => i != 0))) s := by
  rw [c8']
  refine run_rt rfl (es_ret (ev_not (ev_bi (y := .bl (((List.range d).map fun t => dot (row A p t) w).any fun i => i != 0)) (ev_cons (ev_ift (s1 := s) (et_cmp (ev_var rfl) ev_c (by simp [dCmp, dEq, scalD, D.eq])) (ev_call (ev_cons (ev_var rfl) (ev_cons (ev_var rfl) ev_nil)) (C4 h))) ev_nil) ?_) rfl))
  simp only [bAny, tupI, trus_map, Option.map_some]
  simp [List.any_map, Function.comp_def]
theorem C8c {w : List Int} (h : NetOk p d A) : callN ents (n + 4) 8 [netD p d A, .str "counts", tupI w] s = .ok (.bl (!(((List.range p).map fun q => dot (col A d q) w).any fun i => i != 0))) s := by
  rw [c8']
  refine run_rt rfl (es_ret (ev_not (ev_bi (y := .bl (((List.range p).map fun q => dot (col A d q) w).any fun i => i != 0)) (ev_cons (ev_iff (s1 := s) (et_cmp (ev_var rfl) ev_c (by simp [dCmp, dEq, scalD, D.eq]; decide)) (ev_call (ev_cons (ev_var rfl) (ev_cons (ev_var rfl) ev_nil)) (C5 h))) ev_nil) ?_) rfl))
  simp only [bAny, tupI, trus_map, Option.map_some]
  simp [List.any_map, Function.comp_def]
theorem c16' {xs : List D} : callN ents (n + 1) 16 xs s = runDef ⟨callN ents n⟩ ⟨2, 5, x16⟩ xs s := by rw [xm16]; rfl
theorem C16 {w : List Int} (h : NetOk p d A) : callN ents (n + 3) 16 [netD p d A, tupI w] s = .ok (tupI ((List.range d).map fun t => dot w (row A p t))) s := by
  rw [c16']
  have h7 := h.p7
  have h7' := h.d7
  refine run_rt rfl (es_ret (ev_bi (xs := [.lst ((List.range d).map fun t => D.int (dot w (row A p t)))]) (ev_cons (ev_lc (s1 := s) (ev_seq (ev_call (ev_cons (ev_var rfl) ev_nil) (C15 (by omega) (by omega))) rfl) ?_) ev_nil) (by simp [bTuple, tupI, Function.comp_def])))
  rw [effs_row, List.map_map]
  refine lc_mapA _ _ fun t ht => ⟨_, rfl, rfl, ?_⟩
  refine ev_bi (ev_cons (ev_lc (ys := (w.zip (row A p t)).map fun z => .int (z.1 * z.2)) (ev_zipT (ev_var rfl) (ev_var rfl)) ?_) ev_nil) (sum_map _ _)
  rw [zipL_map]
  refine lc_mapA _ _ fun z hz => ⟨_, rfl, rfl, ev_bin (ev_var rfl) (ev_var rfl) ?_⟩
  have := row_small (List.of_mem_zip hz).2
  simp [dBin, dMul, this]
theorem c17' {xs : List D} : callN ents (n + 1) 17 xs s = runDef ⟨callN ents n⟩ ⟨2, 6, x17⟩ xs s := by rw [xm17]; rfl
theorem C17 {w : List Int} (h : NetOk p d A) : callN ents (n + 3) 17 [netD p d A, tupI w] s = .ok (tupI ((List.range p).map fun q => dot w (col A d q))) s := by
  rw [c17']
  have h7 := h.p7
  have h7' := h.d7
  refine run_rt rfl ?_
  refine es_seq (s1 := s) (es_asg (ev_call (ev_cons (ev_var rfl) ev_nil) (C15 (by omega) (by omega))) rfl) ?_
  refine es_ret (ev_bi (xs := [.lst ((List.range p).map fun q => D.int (dot w (col A d q)))]) (ev_cons (ev_lc (s1 := s) (ev_range (n := p) (ev_idx (ev_var rfl) ev_c rfl) (okR_nat (by omega))) ?_) ev_nil) (by simp [bTuple, tupI, Function.comp_def]))
  rw [rangeL0]
  refine lc_mapA _ _ fun q hq => ⟨_, rfl, rfl, ?_⟩
  refine ev_bi (ev_cons (ev_lc (ys := (w.zip (List.range d)).map fun z => .int (z.1 * eff A z.2 q)) (ev_zipT (ev_var rfl) (ev_var rfl)) ?_) ev_nil) ?_
  · rw [effs_row, List.map_map, zipL_map]
    refine lc_mapA _ _ fun z hz => ⟨_, rfl, rfl, ev_bin (ev_var rfl) (ev_idx (ev_var rfl) (ev_var rfl) (idx_tupI (v := eff A z.2 q) ?_)) ?_⟩
    · have := List.mem_range.mp hq
      simp [row, this]
    · have := eff_small A z.2 q
      simp [dBin, dMul, this]
  · rw [sum_map]
    simp [dot, col, List.zip_map_right, Function.comp_def]
end
end K26

namespace K26
open PySem L2 Lt
section
variable {n p d : Nat} {A : List Ar} {s : Src}
theorem c18' {xs : List D} : callN ents (n + 1) 18 xs s = runDef ⟨callN ents n⟩ ⟨3, 4, x18⟩ xs s := by rw [xm18]; rfl
def canB (A : List Ar) (p : Nat) (m : List Int) (t : Nat) : Bool := ((List.range p).filter fun q => decide ((0, q, t) ∈ A) && decide (m.getD q 0 = 0)).isEmpty
theorem eq_nil (l : List Nat) : dEq (.lst (l.map fun (q : Nat) => D.int q)) (.lst []) = some l.isEmpty := by
  have h : oks (.lst (l.map fun (q : Nat) => D.int q)) (.lst []) = true := by
    simp [oks, D.ok, List.all_map, Function.comp_def]
  simp only [dEq, h, Bool.or_true, if_true]
  cases l <;> simp [D.eq, D.eqL]
theorem C18 {m : List Int} {t : Nat} (hp : p ≤ 7) (hm : m.length = p) : callN ents (n + 1) 18 [netD p d A, tupI m, .int t] s = .ok (.bl (canB A p m t)) s := by
  rw [c18']
  refine run_rt rfl (es_ret (ev_cmp (s1 := s) (ev_lc (ys := ((List.range p).filter fun q => decide ((0, q, t) ∈ A) && decide (m.getD q 0 = 0)).map fun (q : Nat) => D.int q) (ev_range (n := p) (ev_idx (ev_var rfl) ev_c rfl) (okR_nat (by omega))) ?_) (ev_lst ev_nil) (eq_nil _)))
  rw [rangeL0]
  refine lc_filtA _ _ _ fun q hq => ⟨_, rfl, ?_, fun _ => ev_var rfl⟩
  have hq' : q < m.length := by rw [hm]; exact List.mem_range.mp hq
  have hin : dCmp .In (.tup [.int (0 : Nat), .int q, .int t]) (.tup (A.map arD)) = some (decide ((0, q, t) ∈ A)) := mem_arD A (0, q, t)
  have hix : dIdx (tupI m) (.int q) = some (.int (m.getD q 0)) := idx_tupI (by simp [hq'])
  cases hd : decide ((0, q, t) ∈ A) with
  | true =>
    rw [hd] at hin
    refine et_andt (s1 := s) (et_cmp (ev_tup (ev_cons ev_c (ev_cons (ev_var rfl) (ev_cons (ev_var rfl) ev_nil)))) (ev_idx (ev_var rfl) ev_c rfl) hin) (et_cmp (ev_idx (ev_var rfl) (ev_var rfl) hix) ev_c ?_)
    simp [dCmp, dEq, scalD, D.eq]
  | false =>
    rw [hd] at hin
    exact et_andf (et_cmp (ev_tup (ev_cons ev_c (ev_cons (ev_var rfl) (ev_cons (ev_var rfl) ev_nil)))) (ev_idx (ev_var rfl) ev_c rfl) hin)
theorem c19' {xs : List D} : callN ents (n + 1) 19 xs s = runDef ⟨callN ents n⟩ ⟨3, 5, x19⟩ xs s := by rw [xm19]; rfl
def doneI (A : List Ar) (m : List Int) (x : Int) : List Int := m.zipIdx.map fun z => z.1 + eff A x.toNat z.2
theorem C19 {m : List Int} {t : Nat} : callN ents (n + 2) 19 [netD p d A, tupI m, .int t] s = .ok (tupI (doneI A m t)) s := by
  rw [c19']
  refine run_rt rfl (es_ret (ev_bi (xs := [.lst (m.zipIdx.map fun z => D.int (z.1 + eff A t z.2))]) (ev_cons (ev_lc (s1 := s) (ev_enum (ev_var rfl) rfl) ?_) ev_nil) (by simp [bTuple, tupI, doneI, Function.comp_def])))
  rw [enumL_map]
  exact lc_mapA _ _ fun z hz => ⟨_, rfl, rfl, ev_bin (ev_var rfl) (ev_call (ev_cons (ev_var rfl) (ev_cons (ev_var rfl) (ev_cons (ev_var rfl) ev_nil))) C14) rfl⟩
theorem C11 {k : Int} (h1 : 1 ≤ k) (h2 : k < 1000000) : ∃ r s', callN ents (n + 1) 11 [.src, .int k] s = .ok (.int r) s' ∧ 0 ≤ r ∧ r < k := pick_ex s h1 h2
theorem c12' {xs : List D} : callN ents (n + 1) 12 xs s = runDef ⟨callN ents n⟩ ⟨2, 2, x12⟩ xs s := by rw [xm12]; rfl
theorem C12 {l : List D} (h0 : l ≠ []) (h1 : l.length < 1000) : ∃ x s', callN ents (n + 2) 12 [.src, .lst l] s = .ok x s' ∧ x ∈ l := by
  rw [c12']
  have hl : 1 ≤ l.length := by
    cases l with
    | nil => exact absurd rfl h0
    | cons _ _ => simp
  obtain ⟨r, s', h2, h3, h4⟩ := C11 (n := n) (s := s) (k := l.length) (by omega) (by omega)
  obtain ⟨j, rfl⟩ : ∃ j : Nat, r = (j : Int) := ⟨r.toNat, by omega⟩
  have hr : j < l.length := by omega
  exact ⟨l[j], s', run_rt rfl (es_ret (ev_idx (ev_var rfl) (ev_call (ev_cons (ev_var rfl) (ev_cons (ev_bi (ev_cons (ev_var rfl) ev_nil) rfl) ev_nil)) h2) (atI_nat (List.getElem?_eq_getElem hr)))), List.getElem_mem hr⟩
theorem ints_of {vs : List D} {P : Int → Prop} (h : ∀ v ∈ vs, ∃ i, v = .int i ∧ P i) : ∃ l : List Int, vs = l.map D.int ∧ ∀ i ∈ l, P i := by
  induction vs with
  | nil => exact ⟨[], rfl, by simp⟩
  | cons v vs ih =>
    obtain ⟨i, rfl, hi⟩ := h v (by simp)
    obtain ⟨l, rfl, hl⟩ := ih fun v hv => h v (by simp [hv])
    exact ⟨i :: l, rfl, by simp [hi]; exact hl⟩
theorem c21' {xs : List D} : callN ents (n + 1) 21 xs s = runDef ⟨callN ents n⟩ ⟨3, 4, x21⟩ xs s := by rw [xm21]; rfl
theorem C21 {most : Int} (hp : p ≤ 7) (h1 : 1 ≤ most) (h2 : most < 1000000) : ∃ m s', callN ents (n + 2) 21 [.src, .int p, .int most] s = .ok (tupI m) s' ∧ m.length = p ∧ ∀ i ∈ m, 0 ≤ i ∧ i < most := by
  rw [c21']
  obtain ⟨vs, s', k1, k2, k3⟩ := lc_ex (R := ⟨callN ents (n + 1)⟩) (p := .nm 3) (t := Lt.tYes) (e := xeCall 11 (xeCons (xeVar 0) (xeCons (xeVar 2) xeNil))) (env := [some .src, some (.int p), some (.int most), none]) (fun v => ∃ i, v = .int i ∧ (0 ≤ i ∧ i < most)) (ds := rangeL 0 p) s fun dd hdd s => by
    obtain ⟨r, s', q1, q2⟩ := C11 (n := n) (s := s) h1 h2
    exact ⟨_, rfl, rfl, _, s', ev_call (ev_cons (ev_var rfl) (ev_cons (ev_var rfl) ev_nil)) q1, r, rfl, q2⟩
  obtain ⟨l, rfl, hl⟩ := ints_of k3
  refine ⟨l, s', run_rt rfl (es_ret (ev_bi (ev_cons (ev_lc (ev_range (n := p) (ev_var rfl) (okR_nat (by omega))) k1) ev_nil) rfl)), ?_, hl⟩
  simpa [rangeL] using k2
/-! runs -/
def endm (A : List Ar) (m : List Int) (r : List Int) : List Int := r.foldl (doneI A) m
theorem doneI_len (A : List Ar) (m : List Int) (x : Int) : (doneI A m x).length = m.length := by simp [doneI]
theorem endm_len (A : List Ar) : ∀ (r m : List Int), (endm A m r).length = m.length
  | [], m => rfl
  | x :: r, m => by
    show (endm A (doneI A m x) r).length = _
    rw [endm_len A r, doneI_len]
theorem c20' {xs : List D} : callN ents (n + 1) 20 xs s = runDef ⟨callN ents n⟩ ⟨4, 8, x20⟩ xs s := by rw [xm20]; rfl
theorem C20 {m : List Int} {laps : Nat} (h : NetOk p d A) (hm : m.length = p) (hl : laps ≤ 100) : ∃ r s', callN ents (n + 3) 20 [.src, netD p d A, tupI m, .int laps] s = .ok (.tup [tupI r, tupI (endm A m r)]) s' ∧ r.length ≤ laps ∧ ∀ x ∈ r, ∃ t, t < d ∧ x = (t : Int) := by
  rw [c20']
  have h7 := h.p7
  have h7' := h.d7
  obtain ⟨o, s', k1, k2⟩ := for_inv (R := ⟨callN ents (n + 2)⟩) (p := .nm 5) (b := (xsSeq (xsAsg [] (.nm 6) (xeLc [7] (xiRange1 (xeIdx (xeVar 1) (xeC (.int 1)))) (.nm 7) (xtTru (xeCall 18 (xeCons (xeVar 1) (xeCons (xeVar 2) (xeCons (xeVar 7) xeNil))))) (xeVar 7))) (xsSeq (xsIf (xtCmp .Eq (xeVar 6) (xeLst xeNil)) (xsRet (xeTup (xeCons (xeVar 4) (xeCons (xeVar 2) xeNil)))) xsPass) (xsSeq (xsAsg [] (.nm 7) (xeCall 12 (xeCons (xeVar 0) (xeCons (xeVar 6) xeNil)))) (xsAsg [] (.tp [4, 2]) (xeTup (xeCons (xeBin .Add (xeVar 4) (xeTup (xeCons (xeVar 7) xeNil))) (xeCons (xeCall 19 (xeCons (xeVar 1) (xeCons (xeVar 2) (xeCons (xeVar 7) xeNil)))) xeNil))))))))
    (fun k env s => ∃ r x y z, env = [some .src, some (netD p d A), some (tupI (endm A m r)), some (.int laps), some (tupI r), x, y, z] ∧ r.length ≤ k ∧ ∀ x ∈ r, ∃ t, t < d ∧ x = (t : Int))
    (fun v s => ∃ r, v = .tup [tupI r, tupI (endm A m r)] ∧ r.length ≤ laps ∧ ∀ x ∈ r, ∃ t, t < d ∧ x = (t : Int)) 0
    (env := [some .src, some (netD p d A), some (tupI m), some (.int laps), some (tupI []), none, none, none]) (s := s) (ds := rangeL 0 laps) ⟨[], none, none, none, rfl, by simp, by simp⟩ (by
      rintro i x hx env s ⟨r, x1, y1, z1, rfl, hr, hr2⟩
      have hi : i < laps := by
        have := (List.getElem?_eq_some_iff.mp hx).1
        simpa [rangeL] using this
      refine ⟨_, rfl, ?_⟩
      have hmr : (endm A m r).length = p := by rw [endm_len, hm]
      have lc : lcGo ⟨callN ents (n + 2)⟩ [some .src, some (netD p d A), some (tupI (endm A m r)), some (.int laps), some (tupI r), some x, y1, none] (.nm 7) (xtTru (xeCall 18 (xeCons (xeVar 1) (xeCons (xeVar 2) (xeCons (xeVar 7) xeNil))))) (xeVar 7) (rangeL 0 d) s = .ok (((List.range d).filter fun t => canB A p (endm A m r) t).map fun (t : Nat) => D.int t) s := by
        rw [rangeL0]
        exact lc_filtA _ _ _ fun t ht => ⟨_, rfl, et_tru (ev_call (ev_cons (ev_var rfl) (ev_cons (ev_var rfl) (ev_cons (ev_var rfl) ev_nil))) (C18 h7 hmr)) rfl, fun _ => ev_var rfl⟩
      have e1 := ev_lc (own := [7]) (env := [some .src, some (netD p d A), some (tupI (endm A m r)), some (.int laps), some (tupI r), some x, y1, z1]) (ev_range (R := ⟨callN ents (n + 2)⟩) (s := s) (s1 := s) (a := xeIdx (xeVar 1) (xeC (.int 1))) (n := d) (ev_idx (ev_var rfl) ev_c rfl) (okR_nat (by omega))) lc
      cases he : ((List.range d).filter fun t => canB A p (endm A m r) t).isEmpty with
      | true =>
        refine ⟨_, s, es_seq (es_asg e1 rfl) (es_seqR (es_ift (s1 := s) (et_cmp (k := true) (ev_var rfl) (ev_lst ev_nil) (by rw [show dCmp .Eq = dEq from rfl, eq_nil, he])) (es_ret (ev_tup (ev_cons (ev_var rfl) (ev_cons (ev_var rfl) ev_nil)))))), .inr ⟨_, rfl, r, rfl, by omega, hr2⟩⟩
      | false =>
        have hne : (((List.range d).filter fun t => canB A p (endm A m r) t).map fun (t : Nat) => D.int t) ≠ [] := by
          intro e
          rw [List.map_eq_nil_iff] at e
          rw [e] at he; cases he
        obtain ⟨v, s2, q1, q2⟩ := C12 (n := n) (s := s) hne (by
          rw [List.length_map]
          have := List.length_filter_le (fun t => canB A p (endm A m r) t) (List.range d)
          simp at this
          omega)
        obtain ⟨t, ht, rfl⟩ := List.mem_map.mp q2
        have htd : t < d := List.mem_range.mp (List.mem_filter.mp ht).1
        refine ⟨_, s2, es_seq (es_asg e1 rfl) (es_seq (s1 := s) (es_iff (s1 := s) (et_cmp (k := false) (ev_var rfl) (ev_lst ev_nil) (by rw [show dCmp .Eq = dEq from rfl, eq_nil, he])) es_pass) (es_seq (es_asg (ev_call (ev_cons (ev_var rfl) (ev_cons (ev_var rfl) ev_nil)) q1) rfl)
          (es_asg (s1 := s2) (x := .tup [tupI (r ++ [(t : Int)]), tupI (doneI A (endm A m r) t)]) (ev_tup (ev_cons (s1 := s2) (ev_bin (ev_var rfl) (ev_tup (ev_cons (ev_var rfl) ev_nil)) ?_) (ev_cons (ev_call (ev_cons (ev_var rfl) (ev_cons (ev_var rfl) (ev_cons (ev_var rfl) ev_nil))) C19) ev_nil))) rfl))), .inl ⟨_, rfl, r ++ [(t : Int)], some x, some (.lst (((List.range d).filter fun t => canB A p (endm A m r) t).map fun (t : Nat) => D.int t)), some (.int t), ?_, ?_, ?_⟩⟩
        · have : r.length + 1 ≤ big := by have : big = 1000000 := rfl; omega
          simp [dBin, dAdd, tupI, this]
        · have : endm A m (r ++ [(t : Int)]) = doneI A (endm A m r) t := by simp [endm]
          rw [this]; rfl
        · simp; omega
        · intro z hz
          rcases List.mem_append.mp hz with hz | hz
          · exact hr2 z hz
          · exact ⟨t, htd, by simpa using hz⟩)
  rcases k2 with ⟨env2, rfl, r, x, y, z, rfl, hr, hr2⟩ | ⟨v, rfl, r, rfl, hr, hr2⟩
  · refine ⟨r, s', run_rt rfl (es_seq (es_asg (ev_tup ev_nil) rfl) (es_seq (es_for (ev_range (n := laps) (ev_var rfl) (okR_nat (by omega))) k1) (es_ret (ev_tup (ev_cons (ev_var rfl) (ev_cons (ev_var rfl) ev_nil)))))), ?_, hr2⟩
    simpa [rangeL] using hr
  · exact ⟨r, s', run_rt rfl (es_seq (es_asg (ev_tup ev_nil) rfl) (es_seqR (es_for (ev_range (n := laps) (ev_var rfl) (okR_nat (by omega))) k1))), hr, hr2⟩
end
end K26

namespace K26
open PySem L2 Lt
def okA (p d : Nat) (a : Ar) : Prop := (a.1 = 0 ∧ a.2.1 < p ∧ a.2.2 < d) ∨ (a.1 = 1 ∧ a.2.1 < d ∧ a.2.2 < p)
def Part (p d : Nat) (A : List Ar) : Prop := A.Nodup ∧ ∀ a ∈ A, okA p d a
def add (A : List Ar) (a : Ar) : List Ar := if a ∈ A then A else A ++ [a]
def fd (A : List Ar) : D := .dct true (A.map fun a => (arD a, .bl true))
theorem part_add {p d : Nat} {A : List Ar} {a : Ar} (h : Part p d A) (ha : okA p d a) : Part p d (add A a) := by
  unfold add
  split
  · exact h
  · rename_i hn
    refine ⟨List.nodup_append.mpr ⟨h.1, by simp, fun x hx y hy => ?_⟩, fun x hx => ?_⟩
    · simp at hy; subst hy; rintro rfl; exact hn hx
    · rcases List.mem_append.mp hx with hx | hx
      · exact h.2 x hx
      · simp at hx; subst hx; exact ha
theorem part_len {p d : Nat} {A : List Ar} (h : Part p d A) (hp : p ≤ 7) (hd : d ≤ 7) : A.length ≤ 98 := by
  have h1 := nodup_len 98 (l := A.map fun a => a.1 * 49 + a.2.1 * 7 + a.2.2) (by
    rw [List.nodup_iff_pairwise_ne, List.pairwise_map]
    refine h.1.imp_of_mem fun {a b} ha hb hab e => hab ?_
    obtain ⟨a1, a2, a3⟩ := a
    obtain ⟨b1, b2, b3⟩ := b
    have k1 := h.2 _ ha
    have k2 := h.2 _ hb
    simp only [okA] at k1 k2 e
    simp only [Prod.mk.injEq]
    omega) (fun x hx => by
    obtain ⟨a, ha, rfl⟩ := List.mem_map.mp hx
    have k1 := h.2 _ ha
    simp only [okA] at k1
    omega)
  simpa using h1
theorem key_arD (a : Ar) : D.keyOf true (arD a) = true := by simp [D.keyOf, D.keyT, arD, D.keyA]
theorem has_fd (A : List Ar) (a : Ar) : hasD (A.map fun a => (arD a, D.bl true)) (arD a) = decide (a ∈ A) := by
  rw [Bool.eq_iff_iff]
  simp only [hasD, List.any_map, List.any_eq_true, Function.comp, eq_arD, decide_eq_true_eq]
  constructor
  · rintro ⟨x, h1, h2⟩; exact h2 ▸ h1
  · intro h; exact ⟨a, h, rfl⟩
theorem put_fd {A : List Ar} {a : Ar} (h : A.length ≤ 98) : dPut 0 (fd A) (arD a) (.bl true) = some (fd (add A a)) := by
  have hl : (A.map fun a => (arD a, D.bl true)).length < big := by simp; have : big = 1000000 := rfl; omega
  simp only [dPut, fd, key_arD, hl, beq_self_eq_true, Bool.and_self, decide_true, if_true]
  congr 2
  unfold putD add
  rw [has_fd]
  by_cases hm : a ∈ A
  · simp only [hm, decide_true, if_true, List.map_map]
    apply List.map_congr_left
    intro x _
    simp only [Function.comp]
    split <;> rfl
  · simp [hm]
section
variable {n p d : Nat} {A : List Ar} {s : Src} {pl de way : Int} {share : Int}
abbrev En (pl de : Int) (p d : Nat) (way share : Int) (A : List Ar) (x y : Option D) : Lt.Env := [some .src, some (.int pl), some (.int de), some (.int p), some (.int d), some (.int way), some (.int share), some (fd A), x, y]
theorem put1 {idx : EM} {R : Rd} {x y : Option D} {a : Ar} {s s' : Src} (hP : Part p d A) (hp : p ≤ 7) (hd : d ≤ 7) (ha : okA p d a) (hi : idx R (En pl de p d way share A x y) s = .ok (arD a) s') :
    xsPut 0 7 idx (xeC (.bl true)) R (En pl de p d way share A x y) s = .ok (.nx (En pl de p d way share (add A a) x y)) s' ∧ Part p d (add A a) :=
  ⟨es_put (d := fd A) ev_c rfl hi rfl (put_fd (part_len hP hp hd)), part_add hP ha⟩
theorem if1 {idx : EM} {x y : Option D} {a : Ar} (s : Src) (hP : Part p d A) (hp : p ≤ 7) (hd : d ≤ 7) (hs : 1 ≤ share) (hs2 : share < 1000000) (ha : okA p d a) (hi : ∀ s, idx ⟨callN ents (n + 1)⟩ (En pl de p d way share A x y) s = .ok (arD a) s) :
    ∃ A' s', xsIf (xtCmp .Eq (xeCall 11 (xeCons (xeVar 0) (xeCons (xeVar 6) xeNil))) (xeC (.int 0))) (xsPut 0 7 idx (xeC (.bl true))) xsPass ⟨callN ents (n + 1)⟩ (En pl de p d way share A x y) s = .ok (.nx (En pl de p d way share A' x y)) s' ∧ Part p d A' := by
  obtain ⟨r, s', h1, h2, h3⟩ := C11 (n := n) (s := s) hs hs2
  have hc : xeCall 11 (xeCons (xeVar 0) (xeCons (xeVar 6) xeNil)) ⟨callN ents (n + 1)⟩ (En pl de p d way share A x y) s = .ok (.int r) s' := ev_call (ev_cons (ev_var rfl) (ev_cons (ev_var rfl) ev_nil)) h1
  by_cases hr : r = 0
  · subst hr
    obtain ⟨k1, k2⟩ := put1 hP hp hd ha (hi s')
    exact ⟨_, s', es_ift (et_cmp hc ev_c rfl) k1, k2⟩
  · exact ⟨A, s', es_iff (et_cmp (k := false) hc ev_c (by simp [dCmp, dEq, scalD, D.eq, hr])) es_pass, hP⟩
def bIn : SM := (xsSeq (xsIf (xtCmp .Eq (xeCall 11 (xeCons (xeVar 0) (xeCons (xeVar 6) xeNil))) (xeC (.int 0))) (xsPut 0 7 (xeTup (xeCons (xeC (.int 0)) (xeCons (xeVar 8) (xeCons (xeVar 9) xeNil)))) (xeC (.bl true))) xsPass) (xsIf (xtCmp .Eq (xeCall 11 (xeCons (xeVar 0) (xeCons (xeVar 6) xeNil))) (xeC (.int 0))) (xsPut 0 7 (xeTup (xeCons (xeC (.int 1)) (xeCons (xeVar 9) (xeCons (xeVar 8) xeNil)))) (xeC (.bl true))) xsPass))
def bOut : SM := xsFor [7] (xiRange1 (xeVar 4)) (.nm 9) bIn
theorem run_in (hp : p ≤ 7) (hd : d ≤ 7) (hs : 1 ≤ share) (hs2 : share < 1000000) {i : Nat} (hi : i < p) {y : Option D} (hP : Part p d A) (s : Src) : ∃ A' y' s', bOut ⟨callN ents (n + 1)⟩ (En pl de p d way share A (some (.int i)) y) s = .ok (.nx (En pl de p d way share A' (some (.int i)) y')) s' ∧ Part p d A' := by
  obtain ⟨o, s', k1, k2⟩ := for_inv (R := ⟨callN ents (n + 1)⟩) (p := .nm 9) (b := bIn) (fun _ env _ => ∃ A y, env = En pl de p d way share A (some (.int i)) y ∧ Part p d A) (fun _ _ => False) 0 (env := En pl de p d way share A (some (.int i)) y) (s := s) (ds := rangeL 0 d) ⟨A, y, rfl, hP⟩ (by
    rintro j x hx env s ⟨A, y, rfl, hP⟩
    obtain ⟨hj, rfl⟩ := rangeL_at hx
    obtain ⟨A1, s1, q1, q2⟩ := if1 (n := n) (pl := pl) (de := de) (way := way) (share := share) (x := some (.int i)) (y := some (.int j)) (idx := xeTup (xeCons (xeC (.int 0)) (xeCons (xeVar 8) (xeCons (xeVar 9) xeNil)))) (a := (0, i, j)) s hP hp hd hs hs2 (.inl ⟨rfl, hi, hj⟩) fun s => ev_tup (ev_cons ev_c (ev_cons (ev_var rfl) (ev_cons (ev_var rfl) ev_nil)))
    obtain ⟨A2, s2, q3, q4⟩ := if1 (n := n) (pl := pl) (de := de) (way := way) (share := share) (x := some (.int i)) (y := some (.int j)) (idx := xeTup (xeCons (xeC (.int 1)) (xeCons (xeVar 9) (xeCons (xeVar 8) xeNil)))) (a := (1, j, i)) s1 q2 hp hd hs hs2 (.inr ⟨rfl, hj, hi⟩) fun s => ev_tup (ev_cons ev_c (ev_cons (ev_var rfl) (ev_cons (ev_var rfl) ev_nil)))
    exact ⟨_, rfl, _, s2, es_seq q1 q3, .inl ⟨_, rfl, A2, _, rfl, q4⟩⟩)
  rcases k2 with ⟨env2, rfl, A', y', rfl, hP'⟩ | ⟨_, _, hf⟩
  · exact ⟨A', y', s', es_for (ev_range (n := d) (ev_var rfl) (okR_nat (by omega))) k1, hP'⟩
  · exact hf.elim
theorem run_out (hp : p ≤ 7) (hd : d ≤ 7) (hs : 1 ≤ share) (hs2 : share < 1000000) (hP : Part p d A) {x y : Option D} (s : Src) : ∃ A' x' y' s', xsFor [7] (xiRange1 (xeVar 3)) (.nm 8) bOut ⟨callN ents (n + 1)⟩ (En pl de p d way share A x y) s = .ok (.nx (En pl de p d way share A' x' y')) s' ∧ Part p d A' := by
  obtain ⟨o, s', k1, k2⟩ := for_inv (R := ⟨callN ents (n + 1)⟩) (p := .nm 8) (b := bOut) (fun _ env _ => ∃ A x y, env = En pl de p d way share A x y ∧ Part p d A) (fun _ _ => False) 0 (env := En pl de p d way share A x y) (s := s) (ds := rangeL 0 p) ⟨A, x, y, rfl, hP⟩ (by
    rintro j z hz env s ⟨A, x, y, rfl, hP⟩
    obtain ⟨hj, rfl⟩ := rangeL_at hz
    obtain ⟨A', y', s', q1, q2⟩ := run_in (n := n) (pl := pl) (de := de) (way := way) (y := y) hp hd hs hs2 hj hP s
    exact ⟨_, rfl, _, s', q1, .inl ⟨_, rfl, A', _, _, rfl, q2⟩⟩)
  rcases k2 with ⟨env2, rfl, A', x', y', rfl, hP'⟩ | ⟨_, _, hf⟩
  · exact ⟨A', x', y', s', es_for (ev_range (n := p) (ev_var rfl) (okR_nat (by omega))) k1, hP'⟩
  · exact hf.elim
def bW : SM := (xsSeq (xsPut 0 7 (xeTup (xeCons (xeC (.int 0)) (xeCons (xeCall 11 (xeCons (xeVar 0) (xeCons (xeVar 3) xeNil))) (xeCons (xeVar 9) xeNil)))) (xeC (.bl true))) (xsPut 0 7 (xeTup (xeCons (xeC (.int 1)) (xeCons (xeVar 9) (xeCons (xeCall 11 (xeCons (xeVar 0) (xeCons (xeVar 3) xeNil))) xeNil)))) (xeC (.bl true))))
theorem run_w (hp1 : 1 ≤ p) (hp : p ≤ 7) (hd : d ≤ 7) (hP : Part p d A) {x y : Option D} (s : Src) : ∃ A' y' s', xsFor [7] (xiRange1 (xeIf (xtCmp .Lt (xeVar 5) (xeC (.int 2))) (xeVar 4) (xeC (.int 0)))) (.nm 9) bW ⟨callN ents (n + 1)⟩ (En pl de p d way share A x y) s = .ok (.nx (En pl de p d way share A' x y')) s' ∧ Part p d A' := by
  obtain ⟨m, hm, hmd⟩ : ∃ m : Nat, m ≤ d ∧ (xeIf (xtCmp .Lt (xeVar 5) (xeC (.int 2))) (xeVar 4) (xeC (.int 0))) ⟨callN ents (n + 1)⟩ (mask [7] (En pl de p d way share A x y)) s = .ok (.int m) s := by
    by_cases hw : way < 2
    · exact ⟨d, Nat.le_refl _, ev_ift (s1 := s) (et_cmp (ev_var rfl) ev_c (by simp [dCmp, hw])) (ev_var rfl)⟩
    · exact ⟨0, Nat.zero_le _, ev_iff (s1 := s) (et_cmp (k := false) (ev_var rfl) ev_c (by simp [dCmp, hw])) ev_c⟩
  obtain ⟨o, s', k1, k2⟩ := for_inv (R := ⟨callN ents (n + 1)⟩) (p := .nm 9) (b := bW) (fun _ env _ => ∃ A y, env = En pl de p d way share A x y ∧ Part p d A) (fun _ _ => False) 0 (env := En pl de p d way share A x y) (s := s) (ds := rangeL 0 m) ⟨A, y, rfl, hP⟩ (by
    rintro j z hz env s ⟨A, y, rfl, hP⟩
    obtain ⟨hj, rfl⟩ := rangeL_at hz
    obtain ⟨r1, s1, a1, a2, a3⟩ := C11 (n := n) (s := s) (k := p) (by omega) (by omega)
    obtain ⟨j1, rfl⟩ : ∃ j : Nat, r1 = (j : Int) := ⟨r1.toNat, by omega⟩
    obtain ⟨r2, s2, b1, b2, b3⟩ := C11 (n := n) (s := s1) (k := p) (by omega) (by omega)
    obtain ⟨j2, rfl⟩ : ∃ j : Nat, r2 = (j : Int) := ⟨r2.toNat, by omega⟩
    obtain ⟨q1, q2⟩ := put1 (pl := pl) (de := de) (way := way) (share := share) (x := x) (y := some (.int j)) (a := (0, j1, j)) (R := ⟨callN ents (n + 1)⟩) (s := s) (s' := s1) (idx := xeTup (xeCons (xeC (.int 0)) (xeCons (xeCall 11 (xeCons (xeVar 0) (xeCons (xeVar 3) xeNil))) (xeCons (xeVar 9) xeNil)))) hP hp hd (.inl ⟨rfl, (show j1 < p by omega), (show j < d by omega)⟩)
      (ev_tup (ev_cons ev_c (ev_cons (ev_call (ev_cons (ev_var rfl) (ev_cons (ev_var rfl) ev_nil)) a1) (ev_cons (ev_var rfl) ev_nil))))
    obtain ⟨q3, q4⟩ := put1 (pl := pl) (de := de) (way := way) (share := share) (x := x) (y := some (.int j)) (a := (1, j, j2)) (R := ⟨callN ents (n + 1)⟩) (s := s1) (s' := s2) (idx := xeTup (xeCons (xeC (.int 1)) (xeCons (xeVar 9) (xeCons (xeCall 11 (xeCons (xeVar 0) (xeCons (xeVar 3) xeNil))) xeNil)))) q2 hp hd (.inr ⟨rfl, (show j < d by omega), (show j2 < p by omega)⟩)
      (ev_tup (ev_cons ev_c (ev_cons (ev_var rfl) (ev_cons (ev_call (ev_cons (ev_var rfl) (ev_cons (ev_var rfl) ev_nil)) b1) ev_nil))))
    exact ⟨_, rfl, _, s2, es_seq q1 q3, .inl ⟨_, rfl, _, _, rfl, q4⟩⟩)
  rcases k2 with ⟨env2, rfl, A', y', rfl, hP'⟩ | ⟨_, _, hf⟩
  · exact ⟨A', y', s', es_for (ev_range hmd (okR_nat (by omega))) k1, hP'⟩
  · exact hf.elim
def bX : SM := (xsSeq (xsPut 0 7 (xeTup (xeCons (xeC (.int 0)) (xeCons (xeBin .Mod (xeBi bInt (xeCons (xeVar 9) xeNil)) (xeVar 3)) (xeCons (xeVar 9) xeNil)))) (xeC (.bl true))) (xsPut 0 7 (xeTup (xeCons (xeC (.int 1)) (xeCons (xeVar 9) (xeCons (xeBin .Mod (xeBi bInt (xeCons (xeBin .Add (xeVar 9) (xeC (.int 1))) xeNil)) (xeVar 3)) xeNil)))) (xeC (.bl true))))
theorem mod_nat {i : Int} {p : Nat} (hp : 1 ≤ p) : ∃ j : Nat, j < p ∧ dBin .Mod (.int i) (.int p) = some (.int j) := by
  have h1 : 0 ≤ i.fmod p := Int.fmod_nonneg_of_pos _ (by omega)
  have h2 : i.fmod p < p := Int.fmod_lt_of_pos _ (by omega)
  refine ⟨(i.fmod p).toNat, by omega, ?_⟩
  have : ((i.fmod p).toNat : Int) = i.fmod p := by omega
  rw [this]
  have hz : ¬ (p : Int) = 0 := by omega
  simp [dBin, dMod, hz]
  omega
theorem run_x (hp1 : 1 ≤ p) (hp : p ≤ 7) (hd : d ≤ 7) (hP : Part p d A) {x y : Option D} (s : Src) : ∃ A' y' s', xsFor [7] (xiRange1 (xeIf (xtCmp .Eq (xeVar 5) (xeC (.int 2))) (xeVar 4) (xeC (.int 0)))) (.nm 9) bX ⟨callN ents (n + 1)⟩ (En pl de p d way share A x y) s = .ok (.nx (En pl de p d way share A' x y')) s' ∧ Part p d A' := by
  obtain ⟨m, hm, hmd⟩ : ∃ m : Nat, m ≤ d ∧ (xeIf (xtCmp .Eq (xeVar 5) (xeC (.int 2))) (xeVar 4) (xeC (.int 0))) ⟨callN ents (n + 1)⟩ (mask [7] (En pl de p d way share A x y)) s = .ok (.int m) s := by
    by_cases hw : way = 2
    · exact ⟨d, Nat.le_refl _, ev_ift (s1 := s) (et_cmp (ev_var rfl) ev_c (by simp [dCmp, dEq, scalD, D.eq, hw])) (ev_var rfl)⟩
    · exact ⟨0, Nat.zero_le _, ev_iff (s1 := s) (et_cmp (k := false) (ev_var rfl) ev_c (by simp [dCmp, dEq, scalD, D.eq, hw])) ev_c⟩
  obtain ⟨o, s', k1, k2⟩ := for_inv (R := ⟨callN ents (n + 1)⟩) (p := .nm 9) (b := bX) (fun _ env _ => ∃ A y, env = En pl de p d way share A x y ∧ Part p d A) (fun _ _ => False) 0 (env := En pl de p d way share A x y) (s := s) (ds := rangeL 0 m) ⟨A, y, rfl, hP⟩ (by
    rintro j z hz env s ⟨A, y, rfl, hP⟩
    obtain ⟨hj, rfl⟩ := rangeL_at hz
    obtain ⟨j1, a1, a2⟩ := mod_nat (i := (j : Int)) hp1
    obtain ⟨j2, b1, b2⟩ := mod_nat (i := (j : Int) + 1) hp1
    obtain ⟨q1, q2⟩ := put1 (pl := pl) (de := de) (way := way) (share := share) (x := x) (y := some (.int j)) (a := (0, j1, j)) (R := ⟨callN ents (n + 1)⟩) (s := s) (s' := s) (idx := xeTup (xeCons (xeC (.int 0)) (xeCons (xeBin .Mod (xeBi bInt (xeCons (xeVar 9) xeNil)) (xeVar 3)) (xeCons (xeVar 9) xeNil)))) hP hp hd (.inl ⟨rfl, (show j1 < p by omega), (show j < d by omega)⟩)
      (ev_tup (ev_cons ev_c (ev_cons (ev_bin (ev_bi (ev_cons (ev_var rfl) ev_nil) rfl) (ev_var rfl) a2) (ev_cons (ev_var rfl) ev_nil))))
    obtain ⟨q3, q4⟩ := put1 (pl := pl) (de := de) (way := way) (share := share) (x := x) (y := some (.int j)) (a := (1, j, j2)) (R := ⟨callN ents (n + 1)⟩) (s := s) (s' := s) (idx := xeTup (xeCons (xeC (.int 1)) (xeCons (xeVar 9) (xeCons (xeBin .Mod (xeBi bInt (xeCons (xeBin .Add (xeVar 9) (xeC (.int 1))) xeNil)) (xeVar 3)) xeNil)))) q2 hp hd (.inr ⟨rfl, (show j < d by omega), (show j2 < p by omega)⟩)
      (ev_tup (ev_cons ev_c (ev_cons (ev_var rfl) (ev_cons (ev_bin (ev_bi (ev_cons (ev_bin (ev_var rfl) ev_c rfl) ev_nil) rfl) (ev_var rfl) b2) ev_nil))))
    exact ⟨_, rfl, _, s, es_seq q1 q3, .inl ⟨_, rfl, _, _, rfl, q4⟩⟩)
  rcases k2 with ⟨env2, rfl, A', y', rfl, hP'⟩ | ⟨_, _, hf⟩
  · exact ⟨A', y', s', es_for (ev_range hmd (okR_nat (by omega))) k1, hP'⟩
  · exact hf.elim
theorem sort_ar (A : List Ar) : ∃ B : List Ar, List.Perm B A ∧ bSorted [.lst (A.map arD)] = some (.lst (B.map arD)) := by
  refine ⟨A.mergeSort fun a b => dLe (arD a) (arD b), List.mergeSort_perm _ _, ?_⟩
  have hs : sortable (A.map arD) = true := by
    unfold sortable
    rw [Bool.or_eq_true]
    right
    rw [List.all_map, List.all_eq_true]
    intro a _
    simp [arD, D.isIntT, D.isInt]
  simp only [bSorted, hs, if_true]
  rw [List.map_mergeSort (r := fun a b => dLe (arD a) (arD b)) (s := dLe) (f := arD) (fun a _ b _ => rfl)]
theorem c13' {xs : List D} : callN ents (n + 1) 13 xs s = runDef ⟨callN ents n⟩ ⟨3, 10, x13⟩ xs s := by rw [xm13]; rfl
theorem C13 {pl de : Int} (h1 : 1 ≤ pl) (h2 : pl ≤ 7) (h3 : 1 ≤ de) (h4 : de ≤ 7) : ∃ p d A s', callN ents (n + 2) 13 [.src, .int pl, .int de] s = .ok (netD p d A) s' ∧ NetOk p d A := by
  rw [c13']
  obtain ⟨r1, s1, a1, a2, a3⟩ := C11 (n := n) (s := s) (k := pl) (by omega) (by omega)
  obtain ⟨r2, s2, b1, b2, b3⟩ := C11 (n := n) (s := s1) (k := de) (by omega) (by omega)
  obtain ⟨r3, s3, c1, c2, c3⟩ := C11 (n := n) (s := s2) (k := 4) (by omega) (by omega)
  obtain ⟨r4, s4, d1, d2, d3⟩ := C11 (n := n) (s := s3) (k := 4) (by omega) (by omega)
  obtain ⟨p, hp⟩ : ∃ p : Nat, 1 + r1 = (p : Int) := ⟨(1 + r1).toNat, by omega⟩
  obtain ⟨d, hd⟩ : ∃ d : Nat, 1 + r2 = (d : Int) := ⟨(1 + r2).toNat, by omega⟩
  have hp7 : p ≤ 7 := by omega
  have hd7 : d ≤ 7 := by omega
  obtain ⟨A1, x1, y1, t1, e1, P1⟩ := run_out (n := n) (pl := pl) (de := de) (way := r3) (share := 2 + r4) (A := []) hp7 hd7 (by omega) (by omega) ⟨.nil, by simp⟩ (x := none) (y := none) s4
  obtain ⟨A2, y2, t2, e2, P2⟩ := run_w (n := n) (pl := pl) (de := de) (way := r3) (share := 2 + r4) (by omega) hp7 hd7 P1 (x := x1) (y := y1) t1
  obtain ⟨A3, y3, t3, e3, P3⟩ := run_x (n := n) (pl := pl) (de := de) (way := r3) (share := 2 + r4) (by omega) hp7 hd7 P2 (x := x1) (y := y2) t2
  obtain ⟨B, hB, hs⟩ := sort_ar A3
  refine ⟨p, d, B, t3, run_rt rfl ?_, ⟨by omega, by omega, hp7, hd7, hB.nodup_iff.mpr P3.1, fun a ha => P3.2 a (hB.subset ha)⟩⟩
  refine es_seq (s1 := s3) (es_par (xs := [.int p, .int d, .int r3]) (ev_cons (s1 := s1) (ev_bin ev_c (ev_call (ev_cons (ev_var rfl) (ev_cons (ev_var rfl) ev_nil)) a1) (by rw [← hp]; rfl)) (ev_cons (s1 := s2) (ev_bin ev_c (ev_call (ev_cons (ev_var rfl) (ev_cons (ev_var rfl) ev_nil)) b1) (by rw [← hd]; rfl)) (ev_cons (ev_call (ev_cons (ev_var rfl) (ev_cons ev_c ev_nil)) c1) ev_nil))) rfl) ?_
  refine es_seq (s1 := s4) (es_par (xs := [.int (2 + r4), fd []]) (ev_cons (ev_bin ev_c (ev_call (ev_cons (ev_var rfl) (ev_cons ev_c ev_nil)) d1) rfl) (ev_cons ev_dct ev_nil)) rfl) ?_
  refine es_seq e1 ?_
  refine es_seq e2 ?_
  refine es_seq e3 ?_
  refine es_ret (ev_tup (ev_cons (ev_var rfl) (ev_cons (ev_var rfl) (ev_cons (ev_bi (ev_cons (ev_bi (ev_cons (ev_bi (y := .lst (A3.map arD)) (ev_cons (ev_var rfl) ev_nil) ?_) ev_nil) hs) ev_nil) rfl) ev_nil))))
  simp [bList, fd, Function.comp_def]
end
end K26

namespace K26
open PySem L2 Lt
/-! sums -/
def sumR (n : Nat) (f : Nat → Int) : Int := ((List.range n).map f).sum
theorem sumR_succ (n : Nat) (f : Nat → Int) : sumR (n + 1) f = sumR n f + f n := by simp [sumR, List.range_succ]
theorem sumR_add (n : Nat) (f g : Nat → Int) : sumR n (fun i => f i + g i) = sumR n f + sumR n g := by
  induction n with
  | zero => rfl
  | succ n ih => simp only [sumR_succ, ih]; omega
theorem sumR_zero (n : Nat) : sumR n (fun _ => 0) = 0 := by
  induction n with
  | zero => rfl
  | succ n ih => simp only [sumR_succ, ih]; rfl
theorem sumR_mul (n : Nat) (c : Int) (f : Nat → Int) : c * sumR n f = sumR n (fun i => c * f i) := by
  induction n with
  | zero => simp [sumR]
  | succ n ih => simp only [sumR_succ, ← ih, Int.mul_add]
theorem sumR_congr {n : Nat} {f g : Nat → Int} (h : ∀ i, i < n → f i = g i) : sumR n f = sumR n g := by
  induction n with
  | zero => rfl
  | succ n ih => rw [sumR_succ, sumR_succ, ih fun i hi => h i (by omega), h n (by omega)]
theorem sumR_swap (n m : Nat) (f : Nat → Nat → Int) : sumR n (fun i => sumR m (fun j => f i j)) = sumR m (fun j => sumR n (fun i => f i j)) := by
  induction n with
  | zero => simp only [sumR_zero, show ∀ f, sumR 0 f = 0 from fun _ => rfl]
  | succ n ih =>
    rw [sumR_succ, ih, ← sumR_add]
    exact sumR_congr fun j _ => (sumR_succ n fun i => f i j).symm
theorem sumR_one (n : Nat) (t : Nat) (c : Nat → Int) (h : t < n) : sumR n (fun i => if i = t then c i else 0) = c t := by
  induction n with
  | zero => omega
  | succ n ih =>
    rw [sumR_succ]
    by_cases e : n = t
    · subst e
      have : sumR n (fun i => if i = n then c i else 0) = sumR n (fun _ => 0) := sumR_congr fun i hi => by rw [if_neg (by omega)]
      rw [this, sumR_zero]; simp
    · rw [ih (by omega), if_neg e]; omega
theorem sumR_bd {n : Nat} {f : Nat → Int} {B : Nat} (h : ∀ i, i < n → -(B : Int) ≤ f i ∧ f i ≤ B) : -((n * B : Nat) : Int) ≤ sumR n f ∧ sumR n f ≤ ((n * B : Nat) : Int) := by
  induction n with
  | zero => simp [sumR]
  | succ n ih =>
    rw [sumR_succ]
    have h1 := ih fun i hi => h i (by omega)
    have h2 := h n (by omega)
    have e : (n + 1) * B = n * B + B := Nat.succ_mul n B
    omega
theorem dot_range (n : Nat) (f g : Nat → Int) : dot ((List.range n).map f) ((List.range n).map g) = sumR n fun i => f i * g i := by
  simp only [dot, sumR, List.zip_map', List.map_map]
  rfl
theorem dot_comm : ∀ a b : List Int, dot a b = dot b a
  | [], [] => rfl
  | [], _ :: _ => rfl
  | _ :: _, [] => rfl
  | x :: a, y :: b => by
    have := dot_comm a b
    simp only [dot, List.zip_cons_cons, List.map_cons, List.sum_cons] at this ⊢
    rw [this, Int.mul_comm]
theorem as_range {l : List Int} {n : Nat} (h : l.length = n) : l = (List.range n).map fun i => l.getD i 0 := by
  subst h
  apply List.ext_getElem
  · simp
  · intro i h1 h2
    simp [h1]
section
variable {p d : Nat} {A : List Ar}
theorem dot_row (t : Nat) (w : Nat → Int) : dot (row A p t) ((List.range p).map w) = sumR p fun q => eff A t q * w q := dot_range p _ _
theorem dot_col (q : Nat) (c : Nat → Int) : dot (col A d q) ((List.range d).map c) = sumR d fun t => eff A t q * c t := dot_range d _ _
/-- products alike both ways -/
theorem both {w c : List Int} (hw : w.length = p) (hc : c.length = d) : dot w ((List.range p).map fun q => dot c (col A d q)) = dot c ((List.range d).map fun t => dot w (row A p t)) := by
  rw [as_range hw, as_range hc]
  generalize (fun i => w.getD i 0) = W
  generalize (fun i => c.getD i 0) = C
  rw [dot_range, dot_range]
  have e1 : (sumR p fun q => W q * dot ((List.range d).map C) (col A d q)) = sumR p fun q => sumR d fun t => W q * (C t * eff A t q) := sumR_congr fun q _ => by rw [show col A d q = (List.range d).map fun t => eff A t q from rfl, dot_range, sumR_mul]
  have e2 : (sumR d fun t => C t * dot ((List.range p).map W) (row A p t)) = sumR d fun t => sumR p fun q => C t * (W q * eff A t q) := sumR_congr fun t _ => by rw [show row A p t = (List.range p).map fun q => eff A t q from rfl, dot_range, sumR_mul]
  rw [e1, e2, sumR_swap]
  exact sumR_congr fun t _ => sumR_congr fun q _ => Int.mul_left_comm _ _ _
theorem doneI_get (m : List Int) (x : Int) (q : Nat) (hq : q < m.length) : (doneI A m x).getD q 0 = m.getD q 0 + eff A x.toNat q := by
  have h1 : q < (doneI A m x).length := by rw [doneI_len]; exact hq
  rw [List.getD_eq_getElem?_getD, List.getD_eq_getElem?_getD, List.getElem?_eq_getElem h1, List.getElem?_eq_getElem hq]
  simp [doneI]
/-- a run leads by its counts' change -/
theorem endm_get : ∀ (r m : List Int) (q : Nat), q < m.length → (∀ x ∈ r, ∃ t, t < d ∧ x = (t : Int)) → (endm A m r).getD q 0 = m.getD q 0 + sumR d fun t => eff A t q * (r.count (t : Int) : Nat)
  | [], m, q, _, _ => by
    have : (sumR d fun t => eff A t q * (([] : List Int).count (t : Int) : Nat)) = sumR d fun _ => 0 := sumR_congr fun t _ => by simp
    rw [this, sumR_zero]; simp [endm]
  | x :: r, m, q, hq, h => by
    obtain ⟨t, ht, rfl⟩ := h x (by simp)
    have ih := endm_get r (doneI A m t) q (by rw [doneI_len]; exact hq) fun x hx => h x (by simp [hx])
    have e1 : endm A m ((t : Int) :: r) = endm A (doneI A m t) r := rfl
    rw [e1, ih, doneI_get m t q hq]
    have e2 : (sumR d fun j => eff A j q * (((t : Int) :: r).count (j : Int) : Nat)) = (sumR d fun j => eff A j q * (r.count (j : Int) : Nat)) + sumR d fun j => if j = t then eff A j q else 0 := by
      rw [← sumR_add]
      refine sumR_congr fun j _ => ?_
      rw [List.count_cons]
      by_cases e : j = t
      · subst e; simp [Int.mul_add]
      · have : ¬ ((t : Int) == (j : Int)) = true := by simp; omega
        simp [this, e]
    rw [e2, sumR_one d t (fun j => eff A j q) ht]
    simp; omega
def chg (A : List Ar) (p d : Nat) (r : List Int) : List Int := (List.range p).map fun q => dot (col A d q) (told d r)
theorem chg_get (r : List Int) (q : Nat) : dot (col A d q) (told d r) = sumR d fun t => eff A t q * (r.count (t : Int) : Nat) := dot_col q _
theorem endm_zip {r m : List Int} (hm : m.length = p) (h : ∀ x ∈ r, ∃ t, t < d ∧ x = (t : Int)) : (m.zip (chg A p d r)).map (fun z => z.1 + z.2) = endm A m r := by
  apply List.ext_getElem
  · simp [endm_len, chg, hm]
  · intro q h1 h2
    have hq : q < m.length := by rw [endm_len] at h2; exact h2
    have := endm_get (A := A) r m q hq h
    rw [List.getD_eq_getElem?_getD, List.getElem?_eq_getElem h2, List.getD_eq_getElem?_getD, List.getElem?_eq_getElem hq] at this
    simp only [Option.getD_some] at this
    rw [this, ← chg_get]
    simp [chg]
/-- what stands still keeps the weight -/
theorem keeps {w m r : List Int} (hw : w.length = p) (hm : m.length = p) (h : ∀ x ∈ r, ∃ t, t < d ∧ x = (t : Int)) (hz : ∀ t, t < d → dot w (row A p t) = 0) : dot w (endm A m r) = dot w m := by
  have he : (endm A m r).length = p := by rw [endm_len, hm]
  have dr : ∀ {b : List Int}, b.length = p → dot w b = sumR p fun q => w.getD q 0 * b.getD q 0 := fun {b} hb => by
    have := dot_range p (fun q => w.getD q 0) (fun q => b.getD q 0)
    rw [← as_range hw, ← as_range hb] at this
    exact this
  rw [dr he, dr hm]
  have hz' : ∀ t, t < d → (sumR p fun q => w.getD q 0 * eff A t q) = 0 := fun t ht => by
    have := hz t ht
    rw [as_range hw, show row A p t = (List.range p).map fun q => eff A t q from rfl, dot_range] at this
    exact this
  have e1 : (sumR p fun q => w.getD q 0 * (endm A m r).getD q 0) = (sumR p fun q => w.getD q 0 * m.getD q 0) + sumR p fun q => sumR d fun t => (r.count (t : Int) : Nat) * (w.getD q 0 * eff A t q) := by
    rw [← sumR_add]
    refine sumR_congr fun q hq => ?_
    rw [endm_get r m q (by omega) h, Int.mul_add, sumR_mul]
    congr 1
    exact sumR_congr fun t _ => by rw [Int.mul_comm (eff A t q), Int.mul_left_comm]
  rw [e1, sumR_swap]
  have e2 : (sumR d fun t => sumR p fun q => (r.count (t : Int) : Nat) * (w.getD q 0 * eff A t q)) = sumR d fun _ => 0 := sumR_congr fun t ht => by rw [← sumR_mul, hz' t ht, Int.mul_zero]
  rw [e2, sumR_zero, Int.add_zero]
end
end K26

namespace K26
open PySem L2 Lt
/-! what repr shows -/
def fit (n B : Nat) (d : D) : Prop := d.ok n = true ∧ d.intsOk = true ∧ d.wt ≤ B
theorem log_lt {k : Nat} (h : k < 2 ^ 60) : k.log2 < 60 := by
  by_cases e : k = 0
  · subst e; decide
  · exact (Nat.log2_lt e).mpr h
theorem fit_int {n : Nat} {i : Int} (h : i.natAbs < 2 ^ 60) : fit (n + 1) 64 (.int i) := by
  have := log_lt h
  refine ⟨rfl, ?_, ?_⟩
  · simp only [D.intsOk, decide_eq_true_eq]; omega
  · simp only [D.wt]; omega
theorem fit_bl {n : Nat} {b : Bool} : fit (n + 1) 64 (.bl b) := ⟨rfl, rfl, by simp [D.wt]⟩
theorem fit_le {n B B' : Nat} {d : D} (h : fit n B d) (hb : B ≤ B') : fit n B' d := ⟨h.1, h.2.1, Nat.le_trans h.2.2 hb⟩
theorem fit_L {n B : Nat} : ∀ {l : List D}, (∀ x ∈ l, fit n B x) → D.intsOkL l = true ∧ D.wtL l ≤ l.length * (B + 2)
  | [], _ => ⟨rfl, by simp [D.wtL]⟩
  | x :: l, h => by
    obtain ⟨h1, h2⟩ := fit_L (l := l) fun y hy => h y (by simp [hy])
    have hx := h x (by simp)
    refine ⟨by simp [D.intsOkL, hx.2.1, h1], ?_⟩
    simp only [D.wtL, List.length_cons, Nat.succ_mul]
    have := hx.2.2
    omega
theorem fit_tup {n B L : Nat} {l : List D} (h : ∀ x ∈ l, fit n B x) (hl : l.length ≤ L) : fit (n + 1) (L * (B + 2) + 5) (.tup l) := by
  obtain ⟨h1, h2⟩ := fit_L h
  refine ⟨by simp only [D.ok, List.all_eq_true]; exact fun x hx => (h x hx).1, h1, ?_⟩
  have := Nat.mul_le_mul_right (B + 2) hl
  simp only [D.wt]; omega
theorem fit_lst {n B L : Nat} {l : List D} (h : ∀ x ∈ l, fit n B x) (hl : l.length ≤ L) : fit (n + 1) (L * (B + 2) + 5) (.lst l) := by
  obtain ⟨h1, h2⟩ := fit_L h
  refine ⟨by simp only [D.ok, List.all_eq_true]; exact fun x hx => (h x hx).1, h1, ?_⟩
  have := Nat.mul_le_mul_right (B + 2) hl
  simp only [D.wt]; omega
theorem fit_tupI {n L : Nat} {l : List Int} (h : ∀ x ∈ l, x.natAbs < 2 ^ 60) (hl : l.length ≤ L) : fit (n + 2) (L * 66 + 5) (tupI l) := by
  refine fit_tup (B := 64) (fun x hx => ?_) (by simpa using hl)
  obtain ⟨i, hi, rfl⟩ := List.mem_map.mp hx
  exact fit_int (h i hi)
theorem repr_ok {B : Nat} {d : D} (h : fit 60 B d) (hb : B ≤ 1000000) : ∃ x, bRepr [d] = some (.str x) := by
  have h3 : d.wt ≤ big := Nat.le_trans h.2.2 hb
  exact ⟨_, by simp [bRepr, h.1, h.2.1, h3]; rfl⟩
theorem ne_str (x : Str) : dCmp .NotEq (.str x) (.str x) = some false := by simp [dCmp, dEq, scalD, D.eq]
theorem ne_int (i : Int) : dCmp .NotEq (.int i) (.int i) = some false := by simp [dCmp, dEq, scalD, D.eq]
theorem eqL_ints : ∀ a b : List Int, D.eqL (a.map D.int) (b.map D.int) = decide (a = b)
  | [], [] => rfl
  | [], _ :: _ => by simp [D.eqL]
  | _ :: _, [] => by simp [D.eqL]
  | x :: a, y :: b => by
    simp only [List.map_cons, D.eqL, D.eq, eqL_ints a b]
    rw [Bool.eq_iff_iff]
    simp
theorem dEq_tupI (a b : List Int) : dEq (tupI a) (tupI b) = some (decide (a = b)) := by
  have ok : ∀ l : List Int, D.ok 60 (tupI l) = true := fun l => by simp [tupI, D.ok, List.all_map, Function.comp_def]
  have e : D.eq (tupI a) (tupI b) = decide (a = b) := eqL_ints a b
  simp only [dEq, oks, ok, Bool.and_self, Bool.or_true, if_true, e]
theorem zeros {k : Nat} (h1 : 1 ≤ k) (h2 : k ≤ 7) : dBin .Mult (.tup [.int 0]) (.int k) = some (tupI (List.replicate k 0)) := by
  have e2 : (List.replicate k [D.int 0]).flatten = (List.replicate k 0).map D.int := by
    clear h1 h2
    induction k with
    | zero => rfl
    | succ k ih => rw [List.replicate_succ, List.flatten_cons, ih, List.replicate_succ]; rfl
  have c1 : decide ((1 : Int) ≤ k) = true := decide_eq_true (by omega)
  have c2 : decide ((k : Int) ≤ 1000) = true := decide_eq_true (by omega)
  simp [dBin, dMul, c1, c2, repL, tupI] at e2 ⊢
  first | done | (simp [e2]; done) | (simp [e2]; omega) | omega | skip
theorem all0 : ∀ (l : List Int), (!(l.any fun i => i != 0)) = decide (l = List.replicate l.length 0)
  | [] => rfl
  | x :: l => by
    have ih := all0 l
    rw [List.any_cons, List.length_cons, List.replicate_succ, Bool.not_or, ih, Bool.eq_iff_iff]
    simp
theorem sum_bd {Z : Nat} : ∀ {l : List Int}, (∀ x ∈ l, -(Z : Int) ≤ x ∧ x ≤ Z) → l.sum.natAbs ≤ l.length * Z
  | [], _ => by simp
  | x :: l, h => by
    have h1 := sum_bd (l := l) fun y hy => h y (by simp [hy])
    have h2 := h x (by simp)
    rw [List.sum_cons, List.length_cons, Nat.succ_mul]
    omega
theorem dot_bd {a b : List Int} {X Y : Nat} (ha : ∀ x ∈ a, -(X : Int) ≤ x ∧ x ≤ X) (hb : ∀ y ∈ b, -(Y : Int) ≤ y ∧ y ≤ Y) (hl : a.length ≤ 7) : (dot a b).natAbs ≤ 7 * (X * Y) := by
  refine Nat.le_trans (sum_bd (Z := X * Y) fun z hz => ?_) ?_
  · obtain ⟨p, hp, rfl⟩ := List.mem_map.mp hz
    have h1 := ha p.1 (List.of_mem_zip hp).1
    have h2 := hb p.2 (List.of_mem_zip hp).2
    have : (p.1 * p.2).natAbs ≤ X * Y := by
      rw [Int.natAbs_mul]
      exact Nat.mul_le_mul (by omega) (by omega)
    omega
  · refine Nat.mul_le_mul_right _ ?_
    simp [List.length_zip]; omega
section
variable {p d : Nat} {A : List Ar}
theorem row_bd {t : Nat} : ∀ x ∈ row A p t, -((1 : Nat) : Int) ≤ x ∧ x ≤ ((1 : Nat) : Int) := fun x hx => by
  obtain ⟨q, _, rfl⟩ := List.mem_map.mp hx
  rcases eff_cases A t q with h | h | h <;> rw [h] <;> decide
theorem col_bd {q : Nat} : ∀ x ∈ col A d q, -((1 : Nat) : Int) ≤ x ∧ x ≤ ((1 : Nat) : Int) := fun x hx => by
  obtain ⟨t, _, rfl⟩ := List.mem_map.mp hx
  rcases eff_cases A t q with h | h | h <;> rw [h] <;> decide
theorem fit_net (h : NetOk p d A) : fit 60 70000 (netD p d A) := by
  have h1 := h.p7
  have h2 := h.d7
  have hA : A.length ≤ 98 := part_len ⟨h.nd, h.ok⟩ h1 h2
  have hb : ∀ k : Nat, k ≤ 7 → ((k : Int)).natAbs < 2 ^ 60 := fun k hk => by
    have e : (2 : Nat) ^ 60 = 1152921504606846976 := by decide
    omega
  have ar : ∀ x ∈ A.map arD, fit 58 203 x := fun x hx => by
    obtain ⟨a, ha, rfl⟩ := List.mem_map.mp hx
    have k := h.ok a ha
    have e : arD a = tupI [a.1, a.2.1, a.2.2] := rfl
    rw [e]
    refine fit_tupI (n := 56) (L := 3) (fun x hx => ?_) (by simp)
    simp at hx
    rcases hx with rfl | rfl | rfl <;> apply hb <;> omega
  have ars := fit_tup ar (L := 98) (by simpa using hA)
  refine fit_le (fit_tup (n := 59) (B := 20095) (L := 3) (fun x hx => ?_) (by simp)) (by omega)
  simp at hx
  rcases hx with rfl | rfl | rfl
  · exact fit_le (fit_int (hb p h1)) (by omega)
  · exact fit_le (fit_int (hb d h2)) (by omega)
  · exact ars
theorem fit_rows (h : NetOk p d A) : fit 60 4000 (.tup ((effs p d A).map tupI)) := by
  have h1 := h.p7
  have h2 := h.d7
  refine fit_le (fit_tup (n := 59) (B := 467) (L := 7) (fun x hx => ?_) (by simp [effs]; omega)) (by omega)
  obtain ⟨r, hr, rfl⟩ := List.mem_map.mp hx
  rw [effs_row] at hr
  obtain ⟨t, _, rfl⟩ := List.mem_map.mp hr
  refine fit_tupI (n := 57) (L := 7) (fun x hx => ?_) (by simp [row]; omega)
  have := row_bd x hx
  have e : (2 : Nat) ^ 60 = 1152921504606846976 := by decide
  omega
end
end K26

namespace K26
open PySem L2 Lt
def b22 : SM := (xsSeq (xsAsg [] (.nm 3) (xeCall 13 (xeCons (xeVar 1) (xeCons (xeIdx (xeLst (xeCons (xeC (.int 3)) (xeCons (xeC (.int 5)) (xeCons (xeC (.int 6)) (xeCons (xeC (.int 7)) (xeCons (xeC (.int 7)) xeNil)))))) (xeVar 2)) (xeCons (xeIdx (xeLst (xeCons (xeC (.int 3)) (xeCons (xeC (.int 5)) (xeCons (xeC (.int 6)) (xeCons (xeC (.int 7)) (xeCons (xeC (.int 7)) xeNil)))))) (xeVar 2)) xeNil))))) (xsSeq (xsPar [] [4, 5, 6] (xeCons (xeBi bRepr (xeCons (xeVar 3) xeNil)) (xeCons (xeCall 15 (xeCons (xeVar 3) xeNil)) (xeCons (xeIdx (xeVar 3) (xeC (.int 0))) xeNil)))) (xsSeq (xsIf (xtCmp .NotEq (xeBi bRepr (xeCons (xeCall 1 (xeCons (xeVar 3) xeNil)) xeNil)) (xeBi bRepr (xeCons (xeVar 5) xeNil))) (xsRet (xeC (.bl false))) xsPass) (xsSeq (xsAsg [] (.nm 7) (xeBi bTuple (xeCons (xeLc [8] (xiRange1 (xeVar 6)) (.nm 8) Lt.tYes (xeBin .Sub (xeCall 11 (xeCons (xeVar 1) (xeCons (xeC (.int 9)) xeNil))) (xeC (.int 4)))) xeNil))) (xsSeq (xsAsg [] (.nm 9) (xeBi bTuple (xeCons (xeLc [10] (xiRange1 (xeIdx (xeVar 3) (xeC (.int 1)))) (.nm 10) Lt.tYes (xeBin .Sub (xeCall 11 (xeCons (xeVar 1) (xeCons (xeC (.int 9)) xeNil))) (xeC (.int 4)))) xeNil))) (xsSeq (xsAsg [] (.tp [7, 9]) (xeIf (xtCmp .Gt (xeCall 11 (xeCons (xeVar 1) (xeCons (xeC (.int 4)) xeNil))) (xeC (.int 0))) (xeTup (xeCons (xeVar 7) (xeCons (xeVar 9) xeNil))) (xeTup (xeCons (xeBin .Mult (xeTup (xeCons (xeC (.int 0)) xeNil)) (xeVar 6)) (xeCons (xeBin .Mult (xeTup (xeCons (xeC (.int 0)) xeNil)) (xeIdx (xeVar 3) (xeC (.int 1)))) xeNil))))) (xsSeq (xsPar [] [11, 12] (xeCons (xeLst (xeCons (xeCall 4 (xeCons (xeVar 3) (xeCons (xeVar 7) xeNil))) (xeCons (xeCall 5 (xeCons (xeVar 3) (xeCons (xeVar 9) xeNil))) xeNil))) (xeCons (xeLst (xeCons (xeCall 16 (xeCons (xeVar 3) (xeCons (xeVar 7) xeNil))) (xeCons (xeCall 17 (xeCons (xeVar 3) (xeCons (xeVar 9) xeNil))) xeNil))) xeNil))) (xsSeq (xsIf (xtCmp .NotEq (xeBi bRepr (xeCons (xeVar 11) xeNil)) (xeBi bRepr (xeCons (xeVar 12) xeNil))) (xsRet (xeC (.bl false))) xsPass) (xsSeq (xsAsg [] (.nm 13) (xeLst (xeCons (xeCmp .Eq (xeIdx (xeVar 12) (xeC (.int 0))) (xeBin .Mult (xeTup (xeCons (xeC (.int 0)) xeNil)) (xeIdx (xeVar 3) (xeC (.int 1))))) (xeCons (xeCmp .Eq (xeIdx (xeVar 12) (xeC (.int 1))) (xeBin .Mult (xeTup (xeCons (xeC (.int 0)) xeNil)) (xeVar 6))) xeNil)))) (xsSeq (xsIf (xtCmp .NotEq (xeBi bRepr (xeCons (xeLst (xeCons (xeCall 8 (xeCons (xeVar 3) (xeCons (xeC (.str "weights")) (xeCons (xeVar 7) xeNil)))) (xeCons (xeCall 8 (xeCons (xeVar 3) (xeCons (xeC (.str "counts")) (xeCons (xeVar 9) xeNil)))) xeNil))) xeNil)) (xeBi bRepr (xeCons (xeVar 13) xeNil))) (xsRet (xeC (.bl false))) xsPass) (xsSeq (xsIf (xtCmp .NotEq (xeBi bSum (xeCons (xeLc [14, 15] (xiZip (xeVar 7) (xeIdx (xeVar 12) (xeC (.int 1)))) (.tp [14, 15]) Lt.tYes (xeBin .Mult (xeVar 14) (xeVar 15))) xeNil)) (xeBi bSum (xeCons (xeLc [14, 15] (xiZip (xeVar 9) (xeIdx (xeVar 12) (xeC (.int 0)))) (.tp [14, 15]) Lt.tYes (xeBin .Mult (xeVar 14) (xeVar 15))) xeNil))) (xsRet (xeC (.bl false))) xsPass) (xsSeq (xsAsg [] (.nm 16) (xeCall 21 (xeCons (xeVar 1) (xeCons (xeVar 6) (xeCons (xeC (.int 5)) xeNil))))) (xsSeq (xsAsg [] (.tp [17, 18]) (xeCall 20 (xeCons (xeVar 1) (xeCons (xeVar 3) (xeCons (xeVar 16) (xeCons (xeC (.int 12)) xeNil)))))) (xsSeq (xsAsg [] (.nm 11) (xeCall 7 (xeCons (xeVar 3) (xeCons (xeVar 17) xeNil)))) (xsSeq (xsIf (xtCmp .NotEq (xeBi bRepr (xeCons (xeVar 11) xeNil)) (xeBi bRepr (xeCons (xeBi bTuple (xeCons (xeLc [10] (xiRange1 (xeIdx (xeVar 3) (xeC (.int 1)))) (.nm 10) Lt.tYes (xeCnt (xeBi bList (xeCons (xeVar 17) xeNil)) (xeVar 10))) xeNil)) xeNil))) (xsRet (xeC (.bl false))) xsPass) (xsSeq (xsIf (xtCmp .NotEq (xeBi bTuple (xeCons (xeLc [14, 15] (xiZip (xeVar 16) (xeCall 5 (xeCons (xeVar 3) (xeCons (xeVar 11) xeNil)))) (.tp [14, 15]) Lt.tYes (xeBin .Add (xeVar 14) (xeVar 15))) xeNil)) (xeVar 18)) (xsRet (xeC (.bl false))) xsPass) (xsSeq (xsAsg [] (.nm 19) (xeLst (xeCons (xeCall 6 (xeCons (xeVar 7) (xeCons (xeVar 16) xeNil))) (xeCons (xeCall 6 (xeCons (xeVar 7) (xeCons (xeVar 18) xeNil))) xeNil)))) (xsSeq (xsAsg [] (.nm 20) (xeLc [21] (xiSeq (xeTup (xeCons (xeVar 16) (xeCons (xeVar 18) xeNil)))) (.nm 21) Lt.tYes (xeBi bSum (xeCons (xeLc [14, 15] (xiZip (xeVar 7) (xeVar 21)) (.tp [14, 15]) Lt.tYes (xeBin .Mult (xeVar 14) (xeVar 15))) xeNil)))) (xsIf (xtOr (xtCmp .NotEq (xeBi bRepr (xeCons (xeVar 19) xeNil)) (xeBi bRepr (xeCons (xeVar 20) xeNil))) (xtOr (xtAnd (xtTru (xeIdx (xeVar 13) (xeC (.int 0)))) (xtCmp .NotEq (xeIdx (xeVar 19) (xeC (.int 0))) (xeIdx (xeVar 19) (xeC (.int 1))))) (xtCmp .NotEq (xeBi bRepr (xeCons (xeVar 3) xeNil)) (xeVar 4)))) (xsRet (xeC (.bl false))) xsPass)))))))))))))))))))
theorem five {j : Nat} (h : j < 5) : ∃ v : Int, dIdx (.lst [.int 3, .int 5, .int 6, .int 7, .int 7]) (.int j) = some (.int v) ∧ 1 ≤ v ∧ v ≤ 7 := by
  match j, h with
  | 0, _ => exact ⟨3, rfl, by decide, by decide⟩
  | 1, _ => exact ⟨5, rfl, by decide, by decide⟩
  | 2, _ => exact ⟨6, rfl, by decide, by decide⟩
  | 3, _ => exact ⟨7, rfl, by decide, by decide⟩
  | 4, _ => exact ⟨7, rfl, by decide, by decide⟩
/-- drawn numbers from -4 to 4 -/
theorem draws {p : Nat} {i k : Nat} {env : Lt.Env} (s : Src) (h1 : (wipeE env [i])[1]? = some (some .src)) (hi : i ≠ 1) : ∃ (w : List Int) (s' : Src), lcGo ⟨callN ents 11⟩ (wipeE env [i]) (.nm i) Lt.tYes (xeBin .Sub (xeCall 11 (xeCons (xeVar 1) (xeCons (xeC (.int 9)) xeNil))) (xeC (.int 4))) (rangeL 0 p) s = .ok (w.map D.int) s' ∧ w.length = p ∧ ∀ x ∈ w, -4 ≤ x ∧ x ≤ 4 := by
  obtain ⟨vs, s', k1, k2, k3⟩ := lc_ex (R := ⟨callN ents 11⟩) (p := .nm i) (t := Lt.tYes) (e := xeBin .Sub (xeCall 11 (xeCons (xeVar 1) (xeCons (xeC (.int 9)) xeNil))) (xeC (.int 4))) (env := wipeE env [i]) (fun v => ∃ x, v = .int x ∧ (-4 ≤ x ∧ x ≤ 4)) (ds := rangeL 0 p) s fun dd hdd s => by
    obtain ⟨r, s', q1, q2, q3⟩ := C11 (n := 10) (s := s) (k := 9) (by omega) (by omega)
    have g1 : ((wipeE env [i]).set i (some dd))[1]? = some (some .src) := by rw [List.getElem?_set_ne hi]; exact h1
    exact ⟨_, rfl, rfl, _, s', ev_bin (x := .int r) (y := .int 4) (z := .int (r - 4)) (ev_call (ev_cons (ev_var g1) (ev_cons ev_c ev_nil)) q1) ev_c rfl, r - 4, rfl, by omega, by omega⟩
  obtain ⟨l, rfl, hl⟩ := ints_of k3
  exact ⟨l, s', k1, by simpa [rangeL] using k2, hl⟩
theorem e60 : (2 : Nat) ^ 60 = 1152921504606846976 := by decide
theorem lap_ok {j : Nat} (hj : j < 5) {a0 a3 a4 a5 a6 a7 a8 a9 a10 a11 a12 a13 a14 a15 a16 a17 a18 a19 a20 a21 : Option D} (s : Src) :
    ∃ env' s', b22 ⟨callN ents 11⟩ [a0, some .src, some (.int j), a3, a4, a5, a6, a7, a8, a9, a10, a11, a12, a13, a14, a15, a16, a17, a18, a19, a20, a21] s = .ok (.nx env') s' ∧ env'.length = 22 ∧ env'[1]? = some (some .src) := by
  obtain ⟨v, hv, hv1, hv2⟩ := five hj
  obtain ⟨p, d, A, s1, c13, h⟩ := C13 (n := 9) (s := s) hv1 hv2 hv1 hv2
  have h7 := h.p7
  have h7' := h.d7
  obtain ⟨kept, hk⟩ := repr_ok (fit_net h) (by decide)
  obtain ⟨rw_, hr⟩ := repr_ok (fit_rows h) (by decide)
  obtain ⟨w0, s2, lw, lw1, lw2⟩ := draws (p := p) (i := 8) (k := 0) (env := [a0, some .src, some (.int j), some (netD p d A), some (.str kept), some (.tup ((effs p d A).map tupI)), some (.int p), a7, a8, a9, a10, a11, a12, a13, a14, a15, a16, a17, a18, a19, a20, a21]) s1 rfl (by decide)
  obtain ⟨c0, s3, lc, lc1, lc2⟩ := draws (p := d) (i := 10) (k := 0) (env := [a0, some .src, some (.int j), some (netD p d A), some (.str kept), some (.tup ((effs p d A).map tupI)), some (.int p), some (tupI w0), a8, a9, a10, a11, a12, a13, a14, a15, a16, a17, a18, a19, a20, a21]) s2 rfl (by decide)
  obtain ⟨r4, s4, k4, k41, k42⟩ := C11 (n := 10) (s := s3) (k := 4) (by omega) (by omega)
  -- the weights and counts, drawn or all 0
  obtain ⟨w, c, hwl, hcl, hw, hc, ewc⟩ : ∃ w c : List Int, w.length = p ∧ c.length = d ∧ (∀ x ∈ w, -((4 : Nat) : Int) ≤ x ∧ x ≤ ((4 : Nat) : Int)) ∧ (∀ x ∈ c, -((4 : Nat) : Int) ≤ x ∧ x ≤ ((4 : Nat) : Int)) ∧
      xeIf (xtCmp .Gt (xeCall 11 (xeCons (xeVar 1) (xeCons (xeC (.int 4)) xeNil))) (xeC (.int 0))) (xeTup (xeCons (xeVar 7) (xeCons (xeVar 9) xeNil))) (xeTup (xeCons (xeBin .Mult (xeTup (xeCons (xeC (.int 0)) xeNil)) (xeVar 6)) (xeCons (xeBin .Mult (xeTup (xeCons (xeC (.int 0)) xeNil)) (xeIdx (xeVar 3) (xeC (.int 1)))) xeNil))) ⟨callN ents 11⟩
        [a0, some .src, some (.int j), some (netD p d A), some (.str kept), some (.tup ((effs p d A).map tupI)), some (.int p), some (tupI w0), a8, some (tupI c0), a10, a11, a12, a13, a14, a15, a16, a17, a18, a19, a20, a21] s3 = .ok (.tup [tupI w, tupI c]) s4 := by
    have hp := ev_call (R := ⟨callN ents 11⟩) (env := [a0, some .src, some (.int j), some (netD p d A), some (.str kept), some (.tup ((effs p d A).map tupI)), some (.int p), some (tupI w0), a8, some (tupI c0), a10, a11, a12, a13, a14, a15, a16, a17, a18, a19, a20, a21]) (s := s3) (f := 11) (ev_cons (a := xeVar 1) (l := xeCons (xeC (.int 4)) xeNil) (x := .src) (ev_var rfl) (ev_cons ev_c ev_nil)) k4
    by_cases h0 : 0 < r4
    · exact ⟨w0, c0, lw1, lc1, lw2, lc2, ev_ift (et_cmp (k := true) hp ev_c (by simp [dCmp, h0])) (ev_tup (ev_cons (ev_var rfl) (ev_cons (ev_var rfl) ev_nil)))⟩
    · refine ⟨List.replicate p 0, List.replicate d 0, by simp, by simp, ?_, ?_, ev_iff (et_cmp (k := false) hp ev_c (by simp [dCmp]; omega)) (ev_tup (ev_cons (ev_bin (ev_tup (ev_cons ev_c ev_nil)) (ev_var rfl) (zeros h.p1 h7)) (ev_cons (ev_bin (ev_tup (ev_cons ev_c ev_nil)) (ev_idx (ev_var rfl) ev_c rfl) (zeros h.d1 h7')) ev_nil)))⟩
      · intro x hx; rw [(List.mem_replicate.mp hx).2]; decide
      · intro x hx; rw [(List.mem_replicate.mp hx).2]; decide
  -- the law's own numbers, and the program's
  have pe : (List.range d).map (fun t => dot (row A p t) w) = (List.range d).map fun t => dot w (row A p t) := by
    apply List.map_congr_left; intro t _; exact dot_comm _ _
  have ce : (List.range p).map (fun q => dot (col A d q) c) = (List.range p).map fun q => dot c (col A d q) := by
    apply List.map_congr_left; intro q _; exact dot_comm _ _
  generalize hl0 : (List.range d).map (fun t => dot w (row A p t)) = L0 at pe
  generalize hl1 : (List.range p).map (fun q => dot c (col A d q)) = L1 at ce
  have L0l : L0.length = d := by rw [← hl0]; simp
  have L1l : L1.length = p := by rw [← hl1]; simp
  have rl : ∀ t, (row A p t).length ≤ 7 := fun t => by simp [row]; omega
  have cl : ∀ q, (col A d q).length ≤ 7 := fun q => by simp [col]; omega
  have L0b : ∀ x ∈ L0, x.natAbs < 2 ^ 60 := fun x hx => by
    rw [← hl0] at hx
    obtain ⟨t, _, rfl⟩ := List.mem_map.mp hx
    have := dot_bd hw (row_bd (A := A) (p := p) (t := t)) (by omega)
    have := e60
    omega
  have L1b : ∀ x ∈ L1, x.natAbs < 2 ^ 60 := fun x hx => by
    rw [← hl1] at hx
    obtain ⟨q, _, rfl⟩ := List.mem_map.mp hx
    have := dot_bd hc (col_bd (A := A) (d := d) (q := q)) (by omega)
    have := e60
    omega
  have fl : fit 60 2000 (.lst [tupI L0, tupI L1]) := by
    refine fit_le (fit_lst (n := 59) (B := 467) (L := 2) (fun x hx => ?_) (by simp)) (by omega)
    simp at hx
    rcases hx with rfl | rfl
    · exact fit_tupI (n := 57) (L := 7) L0b (by omega)
    · exact fit_tupI (n := 57) (L := 7) L1b (by omega)
  obtain ⟨rl_, hrl⟩ := repr_ok fl (by decide)
  have fb : ∀ b1 b2 : Bool, fit 60 2000 (.lst [.bl b1, .bl b2]) := fun b1 b2 => by
    refine fit_le (fit_lst (n := 59) (B := 64) (L := 2) (fun x hx => ?_) (by simp)) (by omega)
    simp at hx
    rcases hx with rfl | rfl <;> exact fit_bl
  have d0 : (!(L0.any fun i => i != 0)) = decide (L0 = List.replicate d 0) := by rw [all0, L0l]
  have d1 : (!(L1.any fun i => i != 0)) = decide (L1 = List.replicate p 0) := by rw [all0, L1l]
  obtain ⟨rb_, hrb⟩ := repr_ok (fb (decide (L0 = List.replicate d 0)) (decide (L1 = List.replicate p 0))) (by decide)
  obtain ⟨m, s5, k21, hml, hm⟩ := C21 (n := 9) (s := s4) (p := p) (most := 5) h7 (by decide) (by decide)
  obtain ⟨r, s6, k20, hrl2, hr2⟩ := C20 (n := 8) (s := s5) (m := m) (laps := 12) h hml (by decide)
  have hel : (endm A m r).length = p := by rw [endm_len, hml]
  have tb : ∀ x ∈ told d r, x.natAbs < 2 ^ 60 := fun x hx => by
    obtain ⟨t, _, rfl⟩ := List.mem_map.mp hx
    have := List.count_le_length (a := (t : Int)) (l := r)
    have := e60
    omega
  have tl : (told d r).length = d := by simp [told]
  obtain ⟨rt_, hrt⟩ := repr_ok (fit_tupI (n := 58) (L := 7) tb (by omega)) (by decide)
  have eb : ∀ x ∈ endm A m r, -((100 : Nat) : Int) ≤ x ∧ x ≤ ((100 : Nat) : Int) := fun x hx => by
    obtain ⟨q, hq, rfl⟩ := List.mem_iff_getElem.mp hx
    have hq' : q < m.length := by rw [endm_len] at hq; exact hq
    have h1 := endm_get (A := A) (d := d) r m q hq' hr2
    rw [List.getD_eq_getElem?_getD, List.getElem?_eq_getElem hq, List.getD_eq_getElem?_getD, List.getElem?_eq_getElem hq'] at h1
    simp only [Option.getD_some] at h1
    have h2 := hm _ (List.getElem_mem hq')
    have h3 := sumR_bd (n := d) (f := fun t => eff A t q * (r.count (t : Int) : Nat)) (B := 12) fun t _ => by
      have k1 := List.count_le_length (a := (t : Int)) (l := r)
      rcases eff_cases A t q with e | e | e <;> rw [e] <;> omega
    have h4 : d * 12 ≤ 84 := by omega
    rw [h1]
    omega
  have mb : ∀ x ∈ m, -((100 : Nat) : Int) ≤ x ∧ x ≤ ((100 : Nat) : Int) := fun x hx => by have := hm x hx; omega
  have wm := dot_bd hw mb (by omega)
  have we := dot_bd hw eb (by omega)
  have fs : fit 60 2000 (.lst [.int (dot w m), .int (dot w (endm A m r))]) := by
    have := e60
    refine fit_le (fit_lst (n := 59) (B := 64) (L := 2) (fun x hx => ?_) (by simp)) (by omega)
    simp at hx
    rcases hx with rfl | rfl <;> exact fit_int (by omega)
  obtain ⟨rs_, hrs⟩ := repr_ok fs (by decide)
  have ws : ∀ x ∈ w, Lt.small64 x = true := fun x hx => by
    have := hw x hx
    have e : (2 : Nat) ^ 64 = 18446744073709551616 := by decide
    simp only [Lt.small64, decide_eq_true_eq]; omega
  have cs : ∀ x ∈ c, Lt.small64 x = true := fun x hx => by
    have := hc x hx
    have e : (2 : Nat) ^ 64 = 18446744073709551616 := by decide
    simp only [Lt.small64, decide_eq_true_eq]; omega
  have bt : dot w L1 = dot c L0 := by rw [← hl0, ← hl1]; exact both hwl hcl
  have kp : L0 = List.replicate d 0 → dot w (endm A m r) = dot w m := fun e => by
    refine keeps hwl hml hr2 fun t ht => ?_
    have : dot w (row A p t) ∈ L0 := by rw [← hl0]; exact List.mem_map.mpr ⟨t, List.mem_range.mpr ht, rfl⟩
    rw [e] at this
    exact (List.mem_replicate.mp this).2
  -- a sum of products, read off
  have zs : ∀ {a b : List Int} {ea eb : EM} {env : Lt.Env} {s : Src}, (∀ x ∈ a, Lt.small64 x = true) → ea ⟨callN ents 11⟩ env s = .ok (tupI a) s → eb ⟨callN ents 11⟩ env s = .ok (tupI b) s → env.length = 22 →
      xeBi bSum (xeCons (xeLc [14, 15] (xiZip ea eb) (.tp [14, 15]) Lt.tYes (xeBin .Mult (xeVar 14) (xeVar 15))) xeNil) ⟨callN ents 11⟩ env s = .ok (.int (dot a b)) s := fun {a b ea eb env s} ha h1 h2 hlen => by
    refine ev_bi (ev_cons (ev_lc (ys := (a.zip b).map fun z => .int (z.1 * z.2)) (ev_zipT h1 h2) ?_) ev_nil) (sum_map _ _)
    rw [zipL_map]
    have hw14 : (wipeE env [14, 15]).length = 22 := by rw [wipeE_length, hlen]
    refine lc_mapA _ _ fun z hz => ⟨_, rfl, rfl, ev_bin (x := .int z.1) (y := .int z.2) (ev_var ?_) (ev_var ?_) ?_⟩
    · rw [List.getElem?_set_ne (by decide), List.getElem?_set_self (by omega)]
    · rw [List.getElem?_set_self (by rw [List.length_set]; omega)]
    · have := ha z.1 (List.of_mem_zip hz).1
      simp [dBin, dMul, this]
  unfold b22
  refine ⟨[a0, some .src, some (.int j), some (netD p d A), some (.str kept), some (.tup ((effs p d A).map tupI)), some (.int p), some (tupI w), a8, some (tupI c), a10, some (tupI (told d r)), some (.lst [tupI L0, tupI L1]), some (.lst [.bl (decide (L0 = List.replicate d 0)), .bl (decide (L1 = List.replicate p 0))]), a14, a15, some (tupI m), some (tupI r), some (tupI (endm A m r)), some (.lst [.int (dot w m), .int (dot w (endm A m r))]), some (.lst [.int (dot w m), .int (dot w (endm A m r))]), a21], s6, es_seq (env1 := [a0, some .src, some (.int j), some (netD p d A), a4, a5, a6, a7, a8, a9, a10, a11, a12, a13, a14, a15, a16, a17, a18, a19, a20, a21]) (s1 := s1) (es_asg (ev_call (ev_cons (ev_var rfl) (ev_cons (ev_idx (ev_lst (ev_cons ev_c (ev_cons ev_c (ev_cons ev_c (ev_cons ev_c (ev_cons ev_c ev_nil)))))) (ev_var rfl) hv) (ev_cons (ev_idx (ev_lst (ev_cons ev_c (ev_cons ev_c (ev_cons ev_c (ev_cons ev_c (ev_cons ev_c ev_nil)))))) (ev_var rfl) hv) ev_nil))) c13) rfl) ?_, ?_⟩
  · refine es_seq (env1 := [a0, some .src, some (.int j), some (netD p d A), some (.str kept), some (.tup ((effs p d A).map tupI)), some (.int p), a7, a8, a9, a10, a11, a12, a13, a14, a15, a16, a17, a18, a19, a20, a21]) (s1 := s1) (es_par (xs := [.str kept, .tup ((effs p d A).map tupI), .int p]) (ev_cons (ev_bi (ev_cons (ev_var rfl) ev_nil) hk) (ev_cons (ev_call (ev_cons (ev_var rfl) ev_nil) (C15 (n := 9) (by omega) (by omega))) (ev_cons (ev_idx (ev_var rfl) ev_c rfl) ev_nil))) rfl) ?_
    refine es_seq (env1 := [a0, some .src, some (.int j), some (netD p d A), some (.str kept), some (.tup ((effs p d A).map tupI)), some (.int p), a7, a8, a9, a10, a11, a12, a13, a14, a15, a16, a17, a18, a19, a20, a21]) (s1 := s1) (es_iff (s1 := s1) (et_cmp (k := false) (ev_bi (ev_cons (ev_call (ev_cons (ev_var rfl) ev_nil) (C1 (n := 10) h)) ev_nil) hr) (ev_bi (ev_cons (ev_var rfl) ev_nil) hr) (ne_str _)) es_pass) ?_
    refine es_seq (env1 := [a0, some .src, some (.int j), some (netD p d A), some (.str kept), some (.tup ((effs p d A).map tupI)), some (.int p), some (tupI w0), a8, a9, a10, a11, a12, a13, a14, a15, a16, a17, a18, a19, a20, a21]) (s1 := s2) (es_asg (ev_bi (ev_cons (ev_lc (ev_range (n := p) (ev_var rfl) (okR_nat (by omega))) lw) ev_nil) rfl) rfl) ?_
    refine es_seq (env1 := [a0, some .src, some (.int j), some (netD p d A), some (.str kept), some (.tup ((effs p d A).map tupI)), some (.int p), some (tupI w0), a8, some (tupI c0), a10, a11, a12, a13, a14, a15, a16, a17, a18, a19, a20, a21]) (s1 := s3) (es_asg (ev_bi (ev_cons (ev_lc (ev_range (n := d) (ev_idx (ev_var rfl) ev_c rfl) (okR_nat (by omega))) lc) ev_nil) rfl) rfl) ?_
    refine es_seq (env1 := [a0, some .src, some (.int j), some (netD p d A), some (.str kept), some (.tup ((effs p d A).map tupI)), some (.int p), some (tupI w), a8, some (tupI c), a10, a11, a12, a13, a14, a15, a16, a17, a18, a19, a20, a21]) (s1 := s4) (es_asg ewc rfl) ?_
    have c4 := C4 (n := 9) (s := s4) (w := w) h
    have c5 := C5 (n := 8) (s := s4) (w := c) h
    have c16 := C16 (n := 8) (s := s4) (w := w) h
    have c17 := C17 (n := 8) (s := s4) (w := c) h
    rw [pe] at c4
    rw [ce] at c5
    rw [hl0] at c16
    rw [hl1] at c17
    refine es_seq (env1 := [a0, some .src, some (.int j), some (netD p d A), some (.str kept), some (.tup ((effs p d A).map tupI)), some (.int p), some (tupI w), a8, some (tupI c), a10, some (.lst [tupI L0, tupI L1]), some (.lst [tupI L0, tupI L1]), a13, a14, a15, a16, a17, a18, a19, a20, a21]) (s1 := s4) (es_par (xs := [.lst [tupI L0, tupI L1], .lst [tupI L0, tupI L1]]) (ev_cons (s1 := s4) (ev_lst (ev_cons (ev_call (ev_cons (ev_var rfl) (ev_cons (ev_var rfl) ev_nil)) c4) (ev_cons (ev_call (ev_cons (ev_var rfl) (ev_cons (ev_var rfl) ev_nil)) c5) ev_nil))) (ev_cons (ev_lst (ev_cons (ev_call (ev_cons (ev_var rfl) (ev_cons (ev_var rfl) ev_nil)) c16) (ev_cons (ev_call (ev_cons (ev_var rfl) (ev_cons (ev_var rfl) ev_nil)) c17) ev_nil))) ev_nil)) rfl) ?_
    refine es_seq (env1 := [a0, some .src, some (.int j), some (netD p d A), some (.str kept), some (.tup ((effs p d A).map tupI)), some (.int p), some (tupI w), a8, some (tupI c), a10, some (.lst [tupI L0, tupI L1]), some (.lst [tupI L0, tupI L1]), a13, a14, a15, a16, a17, a18, a19, a20, a21]) (s1 := s4) (es_iff (s1 := s4) (et_cmp (k := false) (ev_bi (ev_cons (ev_var rfl) ev_nil) hrl) (ev_bi (ev_cons (ev_var rfl) ev_nil) hrl) (ne_str _)) es_pass) ?_
    refine es_seq (env1 := [a0, some .src, some (.int j), some (netD p d A), some (.str kept), some (.tup ((effs p d A).map tupI)), some (.int p), some (tupI w), a8, some (tupI c), a10, some (.lst [tupI L0, tupI L1]), some (.lst [tupI L0, tupI L1]), some (.lst [.bl (decide (L0 = List.replicate d 0)), .bl (decide (L1 = List.replicate p 0))]), a14, a15, a16, a17, a18, a19, a20, a21]) (s1 := s4) (es_asg (x := .lst [.bl (decide (L0 = List.replicate d 0)), .bl (decide (L1 = List.replicate p 0))]) (ev_lst (ev_cons (s1 := s4) (ev_cmp (x := tupI L0) (y := tupI (List.replicate d 0)) (ev_idx (ev_var rfl) ev_c rfl) (ev_bin (ev_tup (ev_cons ev_c ev_nil)) (ev_idx (ev_var rfl) ev_c rfl) (zeros h.d1 h7')) (dEq_tupI _ _)) (ev_cons (ev_cmp (x := tupI L1) (y := tupI (List.replicate p 0)) (ev_idx (ev_var rfl) ev_c rfl) (ev_bin (ev_tup (ev_cons ev_c ev_nil)) (ev_var rfl) (zeros h.p1 h7)) (dEq_tupI _ _)) ev_nil))) rfl) ?_
    have c8w := C8w (n := 7) (s := s4) (w := w) h
    have c8c := C8c (n := 7) (s := s4) (w := c) h
    rw [pe, d0] at c8w
    rw [ce, d1] at c8c
    refine es_seq (env1 := [a0, some .src, some (.int j), some (netD p d A), some (.str kept), some (.tup ((effs p d A).map tupI)), some (.int p), some (tupI w), a8, some (tupI c), a10, some (.lst [tupI L0, tupI L1]), some (.lst [tupI L0, tupI L1]), some (.lst [.bl (decide (L0 = List.replicate d 0)), .bl (decide (L1 = List.replicate p 0))]), a14, a15, a16, a17, a18, a19, a20, a21]) (s1 := s4) (es_iff (s1 := s4) (et_cmp (k := false) (ev_bi (ev_cons (ev_lst (ev_cons (ev_call (ev_cons (ev_var rfl) (ev_cons ev_c (ev_cons (ev_var rfl) ev_nil))) c8w) (ev_cons (ev_call (ev_cons (ev_var rfl) (ev_cons ev_c (ev_cons (ev_var rfl) ev_nil))) c8c) ev_nil))) ev_nil) hrb) (ev_bi (ev_cons (ev_var rfl) ev_nil) hrb) (ne_str _)) es_pass) ?_
    refine es_seq (env1 := [a0, some .src, some (.int j), some (netD p d A), some (.str kept), some (.tup ((effs p d A).map tupI)), some (.int p), some (tupI w), a8, some (tupI c), a10, some (.lst [tupI L0, tupI L1]), some (.lst [tupI L0, tupI L1]), some (.lst [.bl (decide (L0 = List.replicate d 0)), .bl (decide (L1 = List.replicate p 0))]), a14, a15, a16, a17, a18, a19, a20, a21]) (s1 := s4) (es_iff (s1 := s4) (et_cmp (k := false) (zs (b := L1) ws (ev_var rfl) (ev_idx (ev_var rfl) ev_c rfl) rfl) (zs (b := L0) cs (ev_var rfl) (ev_idx (ev_var rfl) ev_c rfl) rfl) (by rw [bt]; exact ne_int _)) es_pass) ?_
    refine es_seq (env1 := [a0, some .src, some (.int j), some (netD p d A), some (.str kept), some (.tup ((effs p d A).map tupI)), some (.int p), some (tupI w), a8, some (tupI c), a10, some (.lst [tupI L0, tupI L1]), some (.lst [tupI L0, tupI L1]), some (.lst [.bl (decide (L0 = List.replicate d 0)), .bl (decide (L1 = List.replicate p 0))]), a14, a15, some (tupI m), a17, a18, a19, a20, a21]) (s1 := s5) (es_asg (ev_call (ev_cons (ev_var rfl) (ev_cons (ev_var rfl) (ev_cons ev_c ev_nil))) k21) rfl) ?_
    refine es_seq (env1 := [a0, some .src, some (.int j), some (netD p d A), some (.str kept), some (.tup ((effs p d A).map tupI)), some (.int p), some (tupI w), a8, some (tupI c), a10, some (.lst [tupI L0, tupI L1]), some (.lst [tupI L0, tupI L1]), some (.lst [.bl (decide (L0 = List.replicate d 0)), .bl (decide (L1 = List.replicate p 0))]), a14, a15, some (tupI m), some (tupI r), some (tupI (endm A m r)), a19, a20, a21]) (s1 := s6) (es_asg (ev_call (ev_cons (ev_var rfl) (ev_cons (ev_var rfl) (ev_cons (ev_var rfl) (ev_cons ev_c ev_nil)))) k20) rfl) ?_
    refine es_seq (env1 := [a0, some .src, some (.int j), some (netD p d A), some (.str kept), some (.tup ((effs p d A).map tupI)), some (.int p), some (tupI w), a8, some (tupI c), a10, some (tupI (told d r)), some (.lst [tupI L0, tupI L1]), some (.lst [.bl (decide (L0 = List.replicate d 0)), .bl (decide (L1 = List.replicate p 0))]), a14, a15, some (tupI m), some (tupI r), some (tupI (endm A m r)), a19, a20, a21]) (s1 := s6) (es_asg (ev_call (ev_cons (ev_var rfl) (ev_cons (ev_var rfl) ev_nil)) (C7 (n := 10) h)) rfl) ?_
    refine es_seq (env1 := [a0, some .src, some (.int j), some (netD p d A), some (.str kept), some (.tup ((effs p d A).map tupI)), some (.int p), some (tupI w), a8, some (tupI c), a10, some (tupI (told d r)), some (.lst [tupI L0, tupI L1]), some (.lst [.bl (decide (L0 = List.replicate d 0)), .bl (decide (L1 = List.replicate p 0))]), a14, a15, some (tupI m), some (tupI r), some (tupI (endm A m r)), a19, a20, a21]) (s1 := s6) (es_iff (s1 := s6) (et_cmp (k := false) (ev_bi (ev_cons (ev_var rfl) ev_nil) hrt) (ev_bi (ev_cons (ev_bi (y := tupI (told d r)) (ev_cons (ev_lc (ys := (told d r).map D.int) (ev_range (n := d) (ev_idx (ev_var rfl) ev_c rfl) (okR_nat (by omega))) ?_) ev_nil) rfl) ev_nil) hrt) (ne_str _)) es_pass) ?_
    · rw [rangeL0, show (told d r).map D.int = (List.range d).map fun (t : Nat) => D.int ((r.count (t : Int) : Nat) : Int) by simp [told, Function.comp_def]]
      refine lc_mapA _ _ fun t _ => ⟨_, rfl, rfl, ev_cnt (xs := r.map D.int) (ev_bi (ev_cons (ev_var rfl) ev_nil) rfl) (ev_var rfl) ?_⟩
      simp [bCount, ints_map]
    refine es_seq (env1 := [a0, some .src, some (.int j), some (netD p d A), some (.str kept), some (.tup ((effs p d A).map tupI)), some (.int p), some (tupI w), a8, some (tupI c), a10, some (tupI (told d r)), some (.lst [tupI L0, tupI L1]), some (.lst [.bl (decide (L0 = List.replicate d 0)), .bl (decide (L1 = List.replicate p 0))]), a14, a15, some (tupI m), some (tupI r), some (tupI (endm A m r)), a19, a20, a21]) (s1 := s6) (es_iff (s1 := s6) (et_cmp (k := false) (x := tupI (endm A m r)) (ev_bi (ev_cons (ev_lc (ys := (endm A m r).map D.int) (ev_zipT (xs := m.map D.int) (ys := (chg A p d r).map D.int) (ev_var rfl) (ev_call (ev_cons (ev_var rfl) (ev_cons (ev_var rfl) ev_nil)) (C5 (n := 8) h))) ?_) ev_nil) rfl) (ev_var rfl) (by simp [dCmp, dEq_tupI])) es_pass) ?_
    · rw [zipL_map, ← endm_zip hml hr2, List.map_map]
      exact lc_mapA _ _ fun z _ => ⟨_, rfl, rfl, ev_bin (ev_var rfl) (ev_var rfl) rfl⟩
    refine es_seq (env1 := [a0, some .src, some (.int j), some (netD p d A), some (.str kept), some (.tup ((effs p d A).map tupI)), some (.int p), some (tupI w), a8, some (tupI c), a10, some (tupI (told d r)), some (.lst [tupI L0, tupI L1]), some (.lst [.bl (decide (L0 = List.replicate d 0)), .bl (decide (L1 = List.replicate p 0))]), a14, a15, some (tupI m), some (tupI r), some (tupI (endm A m r)), some (.lst [.int (dot w m), .int (dot w (endm A m r))]), a20, a21]) (s1 := s6) (es_asg (x := .lst [.int (dot w m), .int (dot w (endm A m r))]) (ev_lst (ev_cons (ev_call (ev_cons (ev_var rfl) (ev_cons (ev_var rfl) ev_nil)) (C6 (n := 9) ws)) (ev_cons (ev_call (ev_cons (ev_var rfl) (ev_cons (ev_var rfl) ev_nil)) (C6 (n := 9) ws)) ev_nil))) rfl) ?_
    refine es_seq (env1 := [a0, some .src, some (.int j), some (netD p d A), some (.str kept), some (.tup ((effs p d A).map tupI)), some (.int p), some (tupI w), a8, some (tupI c), a10, some (tupI (told d r)), some (.lst [tupI L0, tupI L1]), some (.lst [.bl (decide (L0 = List.replicate d 0)), .bl (decide (L1 = List.replicate p 0))]), a14, a15, some (tupI m), some (tupI r), some (tupI (endm A m r)), some (.lst [.int (dot w m), .int (dot w (endm A m r))]), some (.lst [.int (dot w m), .int (dot w (endm A m r))]), a21]) (s1 := s6) (es_asg (x := .lst [.int (dot w m), .int (dot w (endm A m r))]) (ev_lc (ev_seq (xs := [tupI m, tupI (endm A m r)]) (ev_tup (ev_cons (ev_var rfl) (ev_cons (ev_var rfl) ev_nil))) rfl) ?_) rfl) ?_
    · exact lc_mapA (l := [m, endm A m r]) tupI (fun b => .int (dot w b)) fun b _ => ⟨_, rfl, rfl, zs ws (ev_var rfl) (ev_var rfl) rfl⟩
    refine es_iff (s1 := s6) (et_orf (s1 := s6) (et_cmp (k := false) (ev_bi (ev_cons (ev_var rfl) ev_nil) hrs) (ev_bi (ev_cons (ev_var rfl) ev_nil) hrs) (ne_str _)) (et_orf (s1 := s6) ?_ (et_cmp (k := false) (ev_bi (ev_cons (ev_var rfl) ev_nil) hk) (ev_var rfl) (ne_str _)))) es_pass
    by_cases hz : L0 = List.replicate d 0
    · exact et_andt (s1 := s6) (et_tru (x := .bl true) (ev_idx (ev_var rfl) ev_c (by simp [dIdx, atI, ixN, hz])) rfl) (et_cmp (x := .int (dot w m)) (y := .int (dot w (endm A m r))) (ev_idx (ev_var rfl) ev_c rfl) (ev_idx (ev_var rfl) ev_c rfl) (by rw [kp hz]; exact ne_int _))
    · exact et_andf (et_tru (x := .bl false) (ev_idx (ev_var rfl) ev_c (by simp [dIdx, atI, ixN, hz])) rfl)
  · exact ⟨rfl, rfl⟩
end K26

namespace K26
open PySem L2 Lt
theorem expl {env : Lt.Env} (h : env.length = 22) (h1 : env[1]? = some (some .src)) : ∃ a0 a2 a3 a4 a5 a6 a7 a8 a9 a10 a11 a12 a13 a14 a15 a16 a17 a18 a19 a20 a21 : Option D, env = [a0, some .src, a2, a3, a4, a5, a6, a7, a8, a9, a10, a11, a12, a13, a14, a15, a16, a17, a18, a19, a20, a21] := by
  match env, h, h1 with
  | [a0, a1, a2, a3, a4, a5, a6, a7, a8, a9, a10, a11, a12, a13, a14, a15, a16, a17, a18, a19, a20, a21], _, h1 =>
    have e : a1 = some .src := by simpa using h1
    subst e
    exact ⟨a0, a2, a3, a4, a5, a6, a7, a8, a9, a10, a11, a12, a13, a14, a15, a16, a17, a18, a19, a20, a21, rfl⟩
def A0 : List Ar := [(0, 0, 0), (0, 1, 1), (1, 0, 1), (1, 0, 2), (1, 1, 0)]
def told0 : D := .lst [.tup [tupI [-1, 1, 1], tupI [1, -1, 0]], tupI [1, 0], tupI [0, 0, 1], .bl true]
theorem ok0 : NetOk 3 2 A0 := ⟨by decide, by decide, by decide, by decide, by decide, by decide⟩
theorem rep0 : ∃ x, bRepr [told0] = some (.str x) := ⟨told0.toP.shown, show (if (told0.ok 60 && told0.intsOk && decide (told0.wt ≤ big)) = true then some (D.str told0.toP.shown) else none) = some (D.str told0.toP.shown) from if_pos (by decide +kernel)⟩
theorem law_math (s : Src) : ∃ s', m22 ⟨callN ents 11⟩ (env0 n22.length) s = .ok (.rt (.bl true)) s' := by
  obtain ⟨o, s1, k1, k2⟩ := for_inv (R := ⟨callN ents 11⟩) (p := .nm 2) (b := b22) (fun _ env _ => env.length = 22 ∧ env[1]? = some (some .src)) (fun _ _ => False) 0 (env := env0 n22.length) (s := s) (ds := rangeL 0 (5 : Nat)) ⟨rfl, rfl⟩ (by
    rintro i x hx env s ⟨h1, h2⟩
    obtain ⟨hi, rfl⟩ := rangeL_at hx
    obtain ⟨a0, a2, a3, a4, a5, a6, a7, a8, a9, a10, a11, a12, a13, a14, a15, a16, a17, a18, a19, a20, a21, rfl⟩ := expl h1 h2
    refine ⟨_, rfl, ?_⟩
    obtain ⟨env', s', q1, q2, q3⟩ := lap_ok hi (a0 := a0) (a3 := a3) (a4 := a4) (a5 := a5) (a6 := a6) (a7 := a7) (a8 := a8) (a9 := a9) (a10 := a10) (a11 := a11) (a12 := a12) (a13 := a13) (a14 := a14) (a15 := a15) (a16 := a16) (a17 := a17) (a18 := a18) (a19 := a19) (a20 := a20) (a21 := a21) s
    exact ⟨_, s', q1, .inl ⟨env', rfl, q2, q3⟩⟩)
  rcases k2 with ⟨env2, rfl, h1, h2⟩ | ⟨_, _, hf⟩
  · obtain ⟨a0, a2, a3, a4, a5, a6, a7, a8, a9, a10, a11, a12, a13, a14, a15, a16, a17, a18, a19, a20, a21, rfl⟩ := expl h1 h2
    obtain ⟨x, hx⟩ := rep0
    have c1 := C1 (n := 10) (s := s1) ok0
    have c4 := C4 (n := 9) (s := s1) (w := [1, 1, 1]) ok0
    have c5 := C5 (n := 8) (s := s1) (w := [1, 1]) ok0
    have c8 := C8w (n := 7) (s := s1) (w := [1, 1, 0]) ok0
    rw [show effs 3 2 A0 = [[-1, 1, 1], [1, -1, 0]] by decide +kernel] at c1
    rw [show ((List.range 2).map fun t => dot (row A0 3 t) [1, 1, 1]) = [1, 0] by decide +kernel] at c4
    rw [show ((List.range 3).map fun q => dot (col A0 2 q) [1, 1]) = [0, 0, 1] by decide +kernel] at c5
    rw [show (!(((List.range 2).map fun t => dot (row A0 3 t) [1, 1, 0]).any fun i => i != 0)) = true by decide +kernel] at c8
    refine ⟨s1, ?_⟩
    rw [← xm22]
    unfold x22
    refine es_seq (env1 := [a0, some .src, a2, a3, a4, a5, a6, a7, a8, a9, a10, a11, a12, a13, a14, a15, a16, a17, a18, a19, a20, a21]) (s1 := s1) (es_for (ev_range (n := (5 : Nat)) ev_c rfl) k1) ?_
    refine es_seq (env1 := [a0, some .src, a2, some (netD 3 2 A0), a4, a5, a6, a7, a8, a9, a10, a11, a12, a13, a14, a15, a16, a17, a18, a19, a20, a21]) (s1 := s1) (es_asg (x := netD 3 2 A0) (ev_tup (xs := [.int 3, .int 2, .tup (A0.map arD)]) (ev_cons ev_c (ev_cons ev_c (ev_cons (ev_tup (ev_cons (ev_tup (ev_cons ev_c (ev_cons ev_c (ev_cons ev_c ev_nil)))) (ev_cons (ev_tup (ev_cons ev_c (ev_cons ev_c (ev_cons ev_c ev_nil)))) (ev_cons (ev_tup (ev_cons ev_c (ev_cons ev_c (ev_cons ev_c ev_nil)))) (ev_cons (ev_tup (ev_cons ev_c (ev_cons ev_c (ev_cons ev_c ev_nil)))) (ev_cons (ev_tup (ev_cons ev_c (ev_cons ev_c (ev_cons ev_c ev_nil)))) ev_nil)))))) ev_nil)))) rfl) ?_
    refine es_seq (env1 := [a0, some .src, a2, some (netD 3 2 A0), a4, a5, a6, a7, a8, a9, a10, some told0, a12, a13, a14, a15, a16, a17, a18, a19, a20, a21]) (s1 := s1) (es_asg (x := told0) (ev_lst (ev_cons (ev_call (ev_cons (ev_var rfl) ev_nil) c1) (ev_cons (ev_call (ev_cons (ev_var rfl) (ev_cons (ev_tup (ev_cons ev_c (ev_cons ev_c (ev_cons ev_c ev_nil)))) ev_nil)) c4) (ev_cons (ev_call (ev_cons (ev_var rfl) (ev_cons (ev_tup (ev_cons ev_c (ev_cons ev_c ev_nil))) ev_nil)) c5) (ev_cons (ev_call (ev_cons (ev_var rfl) (ev_cons ev_c (ev_cons (ev_tup (ev_cons ev_c (ev_cons ev_c (ev_cons ev_c ev_nil)))) ev_nil))) c8) ev_nil))))) rfl) ?_
    refine es_ret (ev_cmp (s1 := s1) (x := .str x) (y := .str x) (ev_bi (ev_cons (ev_var rfl) ev_nil) hx) (ev_bi (xs := [told0]) (ev_cons (ev_lst (ev_cons (ev_tup (ev_cons (ev_tup (ev_cons (ev_neg ev_c rfl) (ev_cons ev_c (ev_cons ev_c ev_nil)))) (ev_cons (ev_tup (ev_cons ev_c (ev_cons (ev_neg ev_c rfl) (ev_cons ev_c ev_nil)))) ev_nil))) (ev_cons (ev_tup (ev_cons ev_c (ev_cons ev_c ev_nil))) (ev_cons (ev_tup (ev_cons ev_c (ev_cons ev_c (ev_cons ev_c ev_nil)))) (ev_cons ev_c ev_nil))))) ev_nil) hx) (by simp [dCmp, dEq, scalD, D.eq]))
  · exact hf.elim
end K26

namespace K26
open PySem PySem.Spec PyProof.Rows L2 Lt
def dd (x : Str) (i : Nat) : He.DefD := ⟨(x, none), x, x, defArgs (top i), defBody (top i), defScope (top i), [], []⟩
def fn : List He.DefD := [dd "effects" 1, dd "place_rows" 2, dd "product" 3, dd "pushes" 4, dd "change" 5, dd "weight_of" 6, dd "deed_counts" 7, dd "stands_still" 8, dd "_law_open_cells" 10, dd "_law_pick" 11, dd "_law_of" 12, dd "_law_net" 13, dd "_law_effect" 14, dd "_law_effects" 15, dd "_law_pushes" 16, dd "_law_change" 17, dd "_law_can" 18, dd "_law_done" 19, dd "_law_run" 20, dd "_law_marking" 21, dd "law" 22]
def fa : List He.Fa := [.glo "effects", .glo "place_rows", .glo "product", .glo "pushes", .glo "change", .glo "weight_of", .glo "deed_counts", .glo "stands_still", .glo "_law_open_cells", .glo "_law_pick", .glo "_law_of", .glo "_law_net", .glo "_law_effect", .glo "_law_effects", .glo "_law_pushes", .glo "_law_change", .glo "_law_can", .glo "_law_done", .glo "_law_run", .glo "_law_marking", .glo "law", .free "len", .free "range", .free "enumerate", .free "zip", .free "tuple", .free "list", .free "sum", .free "int", .free "abs", .free "max", .free "min", .free "any", .free "all", .free "sorted", .free "repr"]
abbrev R : PySem.W.OpenRow := PySem.W.OpenLaw.row PySem.Challenge.rw_freetokens_k26_effects_and_weights_of_ru
abbrev hk : PySem.W.Hook := He.hookD 4 fa fn
def ob (s : PySem.W.SharedT) : He.AlD := He.obsDG 4 fa fn (HandSHeadRun.getT s)
theorem ob_eq (s : PySem.W.SharedT) : ob s = hk.obs s.abs := He.obsDG_eq (HandSHeadRun.getT_eq s)
def loose : List Str := ["effects", "place_rows", "product", "pushes", "change", "weight_of", "deed_counts", "stands_still", "_law_open_cells", "_law_pick", "_law_of", "_law_net", "_law_effect", "_law_effects", "_law_pushes", "_law_change", "_law_can", "_law_done", "_law_run", "_law_marking"]
theorem run (w : World) : HandSHeadRun.RunEq R (PySem.W.view R.prog [22]) hk ob 3000 loose w := by
  intro os
  kernel_rfl
theorem s1 : FnScope n1 ["net"] (defScope (top 1)) := ⟨rfl, rfl, rfl, by decide +kernel, rfl, by decide +kernel, by decide +kernel⟩
theorem s2 : FnScope n2 ["net"] (defScope (top 2)) := ⟨rfl, rfl, rfl, by decide +kernel, rfl, by decide +kernel, by decide +kernel⟩
theorem s3 : FnScope n3 ["one", "other"] (defScope (top 3)) := ⟨rfl, rfl, rfl, by decide +kernel, rfl, by decide +kernel, by decide +kernel⟩
theorem s4 : FnScope n4 ["net", "weights"] (defScope (top 4)) := ⟨rfl, rfl, rfl, by decide +kernel, rfl, by decide +kernel, by decide +kernel⟩
theorem s5 : FnScope n5 ["net", "counts"] (defScope (top 5)) := ⟨rfl, rfl, rfl, by decide +kernel, rfl, by decide +kernel, by decide +kernel⟩
theorem s6 : FnScope n6 ["weights", "marking"] (defScope (top 6)) := ⟨rfl, rfl, rfl, by decide +kernel, rfl, by decide +kernel, by decide +kernel⟩
theorem s7 : FnScope n7 ["net", "run"] (defScope (top 7)) := ⟨rfl, rfl, rfl, by decide +kernel, rfl, by decide +kernel, by decide +kernel⟩
theorem s8 : FnScope n8 ["net", "word", "row"] (defScope (top 8)) := ⟨rfl, rfl, rfl, by decide +kernel, rfl, by decide +kernel, by decide +kernel⟩
theorem s12 : FnScope n12 ["source", "some"] (defScope (top 12)) := ⟨rfl, rfl, rfl, by decide +kernel, rfl, by decide +kernel, by decide +kernel⟩
theorem s13 : FnScope n13 ["source", "places", "deeds"] (defScope (top 13)) := ⟨rfl, rfl, rfl, by decide +kernel, rfl, by decide +kernel, by decide +kernel⟩
theorem s14 : FnScope n14 ["net", "deed", "place"] (defScope (top 14)) := ⟨rfl, rfl, rfl, by decide +kernel, rfl, by decide +kernel, by decide +kernel⟩
theorem s15 : FnScope n15 ["net"] (defScope (top 15)) := ⟨rfl, rfl, rfl, by decide +kernel, rfl, by decide +kernel, by decide +kernel⟩
theorem s16 : FnScope n16 ["net", "weights"] (defScope (top 16)) := ⟨rfl, rfl, rfl, by decide +kernel, rfl, by decide +kernel, by decide +kernel⟩
theorem s17 : FnScope n17 ["net", "counts"] (defScope (top 17)) := ⟨rfl, rfl, rfl, by decide +kernel, rfl, by decide +kernel, by decide +kernel⟩
theorem s18 : FnScope n18 ["net", "marking", "deed"] (defScope (top 18)) := ⟨rfl, rfl, rfl, by decide +kernel, rfl, by decide +kernel, by decide +kernel⟩
theorem s19 : FnScope n19 ["net", "marking", "deed"] (defScope (top 19)) := ⟨rfl, rfl, rfl, by decide +kernel, rfl, by decide +kernel, by decide +kernel⟩
theorem s20 : FnScope n20 ["source", "net", "marking", "laps"] (defScope (top 20)) := ⟨rfl, rfl, rfl, by decide +kernel, rfl, by decide +kernel, by decide +kernel⟩
theorem s21 : FnScope n21 ["source", "p", "most"] (defScope (top 21)) := ⟨rfl, rfl, rfl, by decide +kernel, rfl, by decide +kernel, by decide +kernel⟩
theorem s22 : FnScope n22 ["script"] (defScope (top 22)) := ⟨rfl, rfl, rfl, by decide +kernel, rfl, by decide +kernel, by decide +kernel⟩
abbrev XR0 : Exc → Value → Option Addr → Hp → Prop := fun _ _ _ _ => False
section
variable {P : Program} {w : World} {K : PySem.W.Frag} {h : Heap} {mg : Str → Option Value} {f : Addr}
theorem frees (X : K.In h) (G : h.Ns mainGlobals mg) (c : He.SaysD fa fn K) : ∀ x ∈ blts, mg x = none := by
  intro x hx
  unfold blts at hx
  rcases List.mem_cons.mp hx with rfl | hx
  · exact He.free_ok X G (c.fact 21 (f := .free "len") rfl)
  rcases List.mem_cons.mp hx with rfl | hx
  · exact He.free_ok X G (c.fact 22 (f := .free "range") rfl)
  rcases List.mem_cons.mp hx with rfl | hx
  · exact He.free_ok X G (c.fact 23 (f := .free "enumerate") rfl)
  rcases List.mem_cons.mp hx with rfl | hx
  · exact He.free_ok X G (c.fact 24 (f := .free "zip") rfl)
  rcases List.mem_cons.mp hx with rfl | hx
  · exact He.free_ok X G (c.fact 25 (f := .free "tuple") rfl)
  rcases List.mem_cons.mp hx with rfl | hx
  · exact He.free_ok X G (c.fact 26 (f := .free "list") rfl)
  rcases List.mem_cons.mp hx with rfl | hx
  · exact He.free_ok X G (c.fact 27 (f := .free "sum") rfl)
  rcases List.mem_cons.mp hx with rfl | hx
  · exact He.free_ok X G (c.fact 28 (f := .free "int") rfl)
  rcases List.mem_cons.mp hx with rfl | hx
  · exact He.free_ok X G (c.fact 29 (f := .free "abs") rfl)
  rcases List.mem_cons.mp hx with rfl | hx
  · exact He.free_ok X G (c.fact 30 (f := .free "max") rfl)
  rcases List.mem_cons.mp hx with rfl | hx
  · exact He.free_ok X G (c.fact 31 (f := .free "min") rfl)
  rcases List.mem_cons.mp hx with rfl | hx
  · exact He.free_ok X G (c.fact 32 (f := .free "any") rfl)
  rcases List.mem_cons.mp hx with rfl | hx
  · exact He.free_ok X G (c.fact 33 (f := .free "all") rfl)
  rcases List.mem_cons.mp hx with rfl | hx
  · exact He.free_ok X G (c.fact 34 (f := .free "sorted") rfl)
  rcases List.mem_cons.mp hx with rfl | hx
  · exact He.free_ok X G (c.fact 35 (f := .free "repr") rfl)
  cases hx
theorem tabOk (X : K.In h) (G : h.Ns mainGlobals mg) (c : He.SaysD fa fn K) (base : Heap) (sa ca : Addr) : TabOk P w K mg base sa ca XR0 ents tab := by
  have bl := frees X G c
  refine ⟨bl, fun x fi np kr h => ?_⟩
  have hx := tabOf_mem h
  unfold tabL at hx
  rcases List.mem_cons.mp hx with hz | hx
  · cases hz
    obtain ⟨fd, F⟩ := c.def_ 0 (d := dd "effects" 1) rfl
    refine ⟨_, fd, (["net"] : List Str), He.glo_ok X G (c.fact 0 (f := .glo "effects") rfl), F.kp, FunD.bindsN F (fun _ _ _ _ _ _ us hl => match us, hl with | [_], _ => rfl), ?_⟩
    exact .inl ⟨_, _, _, _, _, n1, [(4, 2)], true, m1, 60, F, s1, rfl, c1, by decide, rfl⟩
  rcases List.mem_cons.mp hx with hz | hx
  · cases hz
    obtain ⟨fd, F⟩ := c.def_ 1 (d := dd "place_rows" 2) rfl
    refine ⟨_, fd, (["net"] : List Str), He.glo_ok X G (c.fact 1 (f := .glo "place_rows") rfl), F.kp, FunD.bindsN F (fun _ _ _ _ _ _ us hl => match us, hl with | [_], _ => rfl), ?_⟩
    exact .inl ⟨_, _, _, _, _, n2, [], true, m2, 60, F, s2, rfl, c2, by decide, rfl⟩
  rcases List.mem_cons.mp hx with hz | hx
  · cases hz
    obtain ⟨fd, F⟩ := c.def_ 2 (d := dd "product" 3) rfl
    refine ⟨_, fd, (["one", "other"] : List Str), He.glo_ok X G (c.fact 2 (f := .glo "product") rfl), F.kp, FunD.bindsN F (fun _ _ _ _ _ _ us hl => match us, hl with | [_, _], _ => rfl), ?_⟩
    exact .inl ⟨_, _, _, _, _, n3, [], true, m3, 60, F, s3, rfl, c3, by decide, rfl⟩
  rcases List.mem_cons.mp hx with hz | hx
  · cases hz
    obtain ⟨fd, F⟩ := c.def_ 3 (d := dd "pushes" 4) rfl
    refine ⟨_, fd, (["net", "weights"] : List Str), He.glo_ok X G (c.fact 3 (f := .glo "pushes") rfl), F.kp, FunD.bindsN F (fun _ _ _ _ _ _ us hl => match us, hl with | [_, _], _ => rfl), ?_⟩
    exact .inl ⟨_, _, _, _, _, n4, [], true, m4, 60, F, s4, rfl, c4, by decide, rfl⟩
  rcases List.mem_cons.mp hx with hz | hx
  · cases hz
    obtain ⟨fd, F⟩ := c.def_ 4 (d := dd "change" 5) rfl
    refine ⟨_, fd, (["net", "counts"] : List Str), He.glo_ok X G (c.fact 4 (f := .glo "change") rfl), F.kp, FunD.bindsN F (fun _ _ _ _ _ _ us hl => match us, hl with | [_, _], _ => rfl), ?_⟩
    exact .inl ⟨_, _, _, _, _, n5, [], true, m5, 60, F, s5, rfl, c5, by decide, rfl⟩
  rcases List.mem_cons.mp hx with hz | hx
  · cases hz
    obtain ⟨fd, F⟩ := c.def_ 5 (d := dd "weight_of" 6) rfl
    refine ⟨_, fd, (["weights", "marking"] : List Str), He.glo_ok X G (c.fact 5 (f := .glo "weight_of") rfl), F.kp, FunD.bindsN F (fun _ _ _ _ _ _ us hl => match us, hl with | [_, _], _ => rfl), ?_⟩
    exact .inl ⟨_, _, _, _, _, n6, [], true, m6, 60, F, s6, rfl, c6, by decide, rfl⟩
  rcases List.mem_cons.mp hx with hz | hx
  · cases hz
    obtain ⟨fd, F⟩ := c.def_ 6 (d := dd "deed_counts" 7) rfl
    refine ⟨_, fd, (["net", "run"] : List Str), He.glo_ok X G (c.fact 6 (f := .glo "deed_counts") rfl), F.kp, FunD.bindsN F (fun _ _ _ _ _ _ us hl => match us, hl with | [_, _], _ => rfl), ?_⟩
    exact .inl ⟨_, _, _, _, _, n7, [], true, m7, 60, F, s7, rfl, c7, by decide, rfl⟩
  rcases List.mem_cons.mp hx with hz | hx
  · cases hz
    obtain ⟨fd, F⟩ := c.def_ 7 (d := dd "stands_still" 8) rfl
    refine ⟨_, fd, (["net", "word", "row"] : List Str), He.glo_ok X G (c.fact 7 (f := .glo "stands_still") rfl), F.kp, FunD.bindsN F (fun _ _ _ _ _ _ us hl => match us, hl with | [_, _, _], _ => rfl), ?_⟩
    exact .inl ⟨_, _, _, _, _, n8, [], true, m8, 60, F, s8, rfl, c8, by decide, rfl⟩
  rcases List.mem_cons.mp hx with hz | hx
  · cases hz
    obtain ⟨fd, F⟩ := c.def_ 9 (d := dd "_law_pick" 11) rfl
    refine ⟨_, fd, (["source", "most"] : List Str), He.glo_ok X G (c.fact 9 (f := .glo "_law_pick") rfl), F.kp, FunD.bindsN F (fun _ _ _ _ _ _ us hl => match us, hl with | [_, _], _ => rfl), ?_⟩
    exact .inr ⟨pickG, rfl, rfl, fun n => ok_pick F bl sa ca XR0 ents n⟩
  rcases List.mem_cons.mp hx with hz | hx
  · cases hz
    obtain ⟨fd, F⟩ := c.def_ 10 (d := dd "_law_of" 12) rfl
    refine ⟨_, fd, (["source", "some"] : List Str), He.glo_ok X G (c.fact 10 (f := .glo "_law_of") rfl), F.kp, FunD.bindsN F (fun _ _ _ _ _ _ us hl => match us, hl with | [_, _], _ => rfl), ?_⟩
    exact .inl ⟨_, _, _, _, _, n12, [], true, m12, 60, F, s12, rfl, c12, by decide, rfl⟩
  rcases List.mem_cons.mp hx with hz | hx
  · cases hz
    obtain ⟨fd, F⟩ := c.def_ 11 (d := dd "_law_net" 13) rfl
    refine ⟨_, fd, (["source", "places", "deeds"] : List Str), He.glo_ok X G (c.fact 11 (f := .glo "_law_net") rfl), F.kp, FunD.bindsN F (fun _ _ _ _ _ _ us hl => match us, hl with | [_, _, _], _ => rfl), ?_⟩
    exact .inl ⟨_, _, _, _, _, n13, [(7, 1)], true, m13, 60, F, s13, rfl, c13, by decide, rfl⟩
  rcases List.mem_cons.mp hx with hz | hx
  · cases hz
    obtain ⟨fd, F⟩ := c.def_ 12 (d := dd "_law_effect" 14) rfl
    refine ⟨_, fd, (["net", "deed", "place"] : List Str), He.glo_ok X G (c.fact 12 (f := .glo "_law_effect") rfl), F.kp, FunD.bindsN F (fun _ _ _ _ _ _ us hl => match us, hl with | [_, _, _], _ => rfl), ?_⟩
    exact .inl ⟨_, _, _, _, _, n14, [], true, m14, 60, F, s14, rfl, c14, by decide, rfl⟩
  rcases List.mem_cons.mp hx with hz | hx
  · cases hz
    obtain ⟨fd, F⟩ := c.def_ 13 (d := dd "_law_effects" 15) rfl
    refine ⟨_, fd, (["net"] : List Str), He.glo_ok X G (c.fact 13 (f := .glo "_law_effects") rfl), F.kp, FunD.bindsN F (fun _ _ _ _ _ _ us hl => match us, hl with | [_], _ => rfl), ?_⟩
    exact .inl ⟨_, _, _, _, _, n15, [], true, m15, 60, F, s15, rfl, c15, by decide, rfl⟩
  rcases List.mem_cons.mp hx with hz | hx
  · cases hz
    obtain ⟨fd, F⟩ := c.def_ 14 (d := dd "_law_pushes" 16) rfl
    refine ⟨_, fd, (["net", "weights"] : List Str), He.glo_ok X G (c.fact 14 (f := .glo "_law_pushes") rfl), F.kp, FunD.bindsN F (fun _ _ _ _ _ _ us hl => match us, hl with | [_, _], _ => rfl), ?_⟩
    exact .inl ⟨_, _, _, _, _, n16, [], true, m16, 60, F, s16, rfl, c16, by decide, rfl⟩
  rcases List.mem_cons.mp hx with hz | hx
  · cases hz
    obtain ⟨fd, F⟩ := c.def_ 15 (d := dd "_law_change" 17) rfl
    refine ⟨_, fd, (["net", "counts"] : List Str), He.glo_ok X G (c.fact 15 (f := .glo "_law_change") rfl), F.kp, FunD.bindsN F (fun _ _ _ _ _ _ us hl => match us, hl with | [_, _], _ => rfl), ?_⟩
    exact .inl ⟨_, _, _, _, _, n17, [], true, m17, 60, F, s17, rfl, c17, by decide, rfl⟩
  rcases List.mem_cons.mp hx with hz | hx
  · cases hz
    obtain ⟨fd, F⟩ := c.def_ 16 (d := dd "_law_can" 18) rfl
    refine ⟨_, fd, (["net", "marking", "deed"] : List Str), He.glo_ok X G (c.fact 16 (f := .glo "_law_can") rfl), F.kp, FunD.bindsN F (fun _ _ _ _ _ _ us hl => match us, hl with | [_, _, _], _ => rfl), ?_⟩
    exact .inl ⟨_, _, _, _, _, n18, [], true, m18, 60, F, s18, rfl, c18, by decide, rfl⟩
  rcases List.mem_cons.mp hx with hz | hx
  · cases hz
    obtain ⟨fd, F⟩ := c.def_ 17 (d := dd "_law_done" 19) rfl
    refine ⟨_, fd, (["net", "marking", "deed"] : List Str), He.glo_ok X G (c.fact 17 (f := .glo "_law_done") rfl), F.kp, FunD.bindsN F (fun _ _ _ _ _ _ us hl => match us, hl with | [_, _, _], _ => rfl), ?_⟩
    exact .inl ⟨_, _, _, _, _, n19, [], true, m19, 60, F, s19, rfl, c19, by decide, rfl⟩
  rcases List.mem_cons.mp hx with hz | hx
  · cases hz
    obtain ⟨fd, F⟩ := c.def_ 18 (d := dd "_law_run" 20) rfl
    refine ⟨_, fd, (["source", "net", "marking", "laps"] : List Str), He.glo_ok X G (c.fact 18 (f := .glo "_law_run") rfl), F.kp, FunD.bindsN F (fun _ _ _ _ _ _ us hl => match us, hl with | [_, _, _, _], _ => rfl), ?_⟩
    exact .inl ⟨_, _, _, _, _, n20, [], true, m20, 60, F, s20, rfl, c20, by decide, rfl⟩
  rcases List.mem_cons.mp hx with hz | hx
  · cases hz
    obtain ⟨fd, F⟩ := c.def_ 19 (d := dd "_law_marking" 21) rfl
    refine ⟨_, fd, (["source", "p", "most"] : List Str), He.glo_ok X G (c.fact 19 (f := .glo "_law_marking") rfl), F.kp, FunD.bindsN F (fun _ _ _ _ _ _ us hl => match us, hl with | [_, _, _], _ => rfl), ?_⟩
    exact .inl ⟨_, _, _, _, _, n21, [], true, m21, 60, F, s21, rfl, c21, by decide, rfl⟩
  cases hx
theorem facts (X : K.In h) (G : h.Ns mainGlobals mg) (hfa : mg ("law" : Str) = some (.ref f)) (c : He.SaysD fa fn K) :
    ∃ fd : FuncData, (∀ (s : Shared) (v : Value), BindsTo s fd ⟨[v], []⟩ [("script", v)]) ∧ ∀ base : Heap, K.In base → base.Ns mainGlobals mg → FnG P w K mg base (L2.CX P w) 12 f fd ["script"] (spLaw K) := by
  obtain ⟨fd, F⟩ := c.def_ 20 (d := dd "law" 22) rfl
  obtain ⟨fdo, FO⟩ := c.def_ 8 (d := dd "_law_open_cells" 10) rfl
  have e := hfa.symm.trans (He.glo_ok X G (c.fact 20 (f := .glo "law") rfl))
  cases e
  have b := FunD.bindsA (ps := ["script"]) F fun _ _ _ _ _ _ us hl => match us, hl with | [_], _ => rfl
  have bo : Binds K fdo ["script"] [] := FunD.bindsN FO fun _ _ _ _ _ _ us hl => match us, hl with | [_], _ => rfl
  exact ⟨fd, fun s v => b s [v] rfl, fun base _ _ => law_fng F s22 rfl (fun sa ca => tabOk X G c base sa ca) (m := m22) (fu := 60) (dt := true) c22 (ok_open FO (frees X G c) 10) (He.glo_ok X G (c.fact 8 (f := .glo "_law_open_cells") rfl)) FO.kp bo (by decide +kernel) (by decide) rfl rfl (.inl (by decide +kernel)) (by first | exact .inl (by decide +kernel) | exact .inr (by decide +kernel)) law_math⟩
end
end K26
open PySem PySem.W PySem.Calls PyProof.Rows
theorem PySem.Challenge.cw_freetokens_k26_effects_and_weights_of_ru_holds : PySem.Challenge.rw_freetokens_k26_effects_and_weights_of_ru.Holds := by
  w_on; o_law
  refine HandSHeadRun.head_any (r := OpenLaw.row PySem.Challenge.rw_freetokens_k26_effects_and_weights_of_ru) (q := view (OpenLaw.row PySem.Challenge.rw_freetokens_k26_effects_and_weights_of_ru).prog [22]) (H := K26.hk) (ob := K26.ob) (M := 3000) (loose := K26.loose) (d := HandSHeadRun.topDef (OpenLaw.row PySem.Challenge.rw_freetokens_k26_effects_and_weights_of_ru).prog 22) (kwd := []) K26.ob_eq
    (by kernel_rfl) (fun s => by kernel_rfl) K26.run (by kernel_rfl) (by kernel_rfl) (by kernel_rfl) (by rfl) (by first | assumption | decide +kernel) (by decide +kernel) ⟨rfl, rfl, rfl, rfl, rfl, by decide +kernel⟩ ?hw ?hc
  case hw => w_witness2
  case hc =>
    refine Lt.walkG (l := PySem.Challenge.rw_freetokens_k26_effects_and_weights_of_ru) (n := 63) (d := 12) (nm := "script") rfl (by decide) (by kernel_rfl) ⟨rfl, by decide, by decide⟩ ?F
    intro w mg fa h Y G hmg0
    obtain ⟨K, KX, c⟩ := Y
    have hmg : mg ("law" : PySem.Str) = some (.ref fa) := by
      have e : (HandSHeadRun.topDef (OpenLaw.row PySem.Challenge.rw_freetokens_k26_effects_and_weights_of_ru).prog 22).name = ("law" : PySem.Str) := by kernel_rfl
      rw [← e]
      exact hmg0
    obtain ⟨fd, hb, hF⟩ := K26.facts (P := (PySem.Challenge.rw_freetokens_k26_effects_and_weights_of_ru).prog) (w := w) KX G hmg c
    exact ⟨K, fd, Lt.spLaw K, KX, hb, fun H a zs hl hS => ⟨a, zs, rfl, hS, hl, fun _ => rfl⟩, hF⟩

