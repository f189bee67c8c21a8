import PyProof.Rows.All
import Wide.All
import OpenK.AllK
import Wide.FinOn
import HandS.ForMost
import HandS.ForExc
import HandS.Flow
import HandS.Style
import HandS.Deep
import HandS.TupAny
import HandS.TupMul
import HandS.IsInst
import HandS.Defaults
import PyProof.ListMulRoad
import PyProof.FactsAll.tuple_2
import HandS.Zip
import HandS.Rev
import HandS.RevRange
import HandS.Conv
import KE.GoesMore
import PyProof.EnumMake
import HandS.More
import HandS.MakeKwOnly
import HandS.ExcCtx
import KE.KStateDown
import HandS.Head0
import HandS.Head1
import HandS.Head2
import HandS.HeadEnd
import HandS.HeadHook1
import HandS.HeadHook2
import HandS.Ends
import HandS.Words
import PySem.Challenge.RW_litmuscore_k75_obtain
set_option Elab.async false
set_option linter.all false
set_option maxRecDepth 100000
set_option maxHeartbeats 2000000
/-! Ev0: data, own syntax, the evaluator. -/
namespace Ev
open PySem

/-- data: what a value is, without addresses -/
inductive D where
  | non
  | bl (b : Bool)
  | int (i : Int)
  | str (x : Str)
  | tup (xs : List D)
  | lst (xs : List D)
  | loc (n : Nat)
  | obj (c : Nat) (xs : List D)
  | rng (lo hi : Int)
  deriving Inhabited

/-- what stands at a location -/
inductive MO where
  | lst (xs : List D)
  deriving Inhabited

/-- a slot of a frame: nothing, a value, a list of the frame's own -/
inductive Sl where
  | no
  | val (d : D)
  | own (xs : List D)
  deriving Inhabited

abbrev Sto := List MO
abbrev Lo := List Sl

/-- an error: its class, what it carries -/
structure Ex where
  c : Nat
  xs : List D

inductive Res (α : Type) where
  | ok (a : α) (m : Sto)
  | exc (e : Ex) (m : Sto)
  | bad

@[inline] def Res.bind {α β : Type} (r : Res α) (f : α → Sto → Res β) : Res β := match r with
  | .ok a m => f a m
  | .exc e m => .exc e m
  | .bad => .bad

/-- how a block ends -/
inductive Out where
  | nx (l : Lo)
  | rt (d : D)
  | bk (l : Lo)
  | ct (l : Lo)
  | ex (e : Ex) (l : Lo)

inductive Ty where
  | int | bool | str | tuple | list
  deriving DecidableEq

/-- builtins -/
inductive BI where
  | len | int | abs | max2 | min2 | tuple | list | any | all | repr | str | bool | sum | maxL | minL | range | index | isinst (t : Ty)
  deriving DecidableEq

/-- what a loop walks -/
inductive IK where
  | seq | range | enum | zip | rev | revRange
  deriving DecidableEq

inductive Mth where
  | append | extend | insert | reverse | pop
  deriving DecidableEq

inductive Tg where
  | name (i : Nat)
  | tup (ts : List Tg)

inductive E where
  | var (i : Nat)
  | cst (d : D)
  | glb (j : Nat)
  | tup (es : List E)
  | lst (es : List E)
  | mls (es : List E)
  | bin (op : Operator) (a b : E)
  | neg (a : E)
  | nt (a : E)
  | cmp (op : CmpOp) (a b : E)
  | chain (op op2 : CmpOp) (a b c : E)
  | bool (and : Bool) (es : List E)
  | ite (c a b : E)
  | idx (a i : E)
  | slc (a : E) (lo hi : List E)
  | fld (a : E) (f : Str)
  | call (f : Nat) (args : List E) (kp : List Nat) (kws : List E)
  | mk (c : Nat) (args : List E) (kp : List Nat) (kws : List E)
  | bcall (b : BI) (args : List E)
  | mcl (b : BI) (o : E) (args : List E)
  | lc (elt : E) (tg : Tg) (ik : IK) (its : List E) (ifs : List E) (own : List Nat)
  | nev

inductive S where
  | asg (t : Tg) (e : E)
  | own (i : Nat) (e : E)
  | setI (o i e : E)
  | meth (m : Mth) (o : E) (args : List E)
  | popA (i : Nat) (o : E) (args : List E)
  | expr (e : E)
  | ite (c : E) (a b : List S)
  | for (tg : Tg) (ik : IK) (its : List E) (body : List S)
  | forM (tg : Tg) (e : E) (body : List S)
  | whl (c : E) (body : List S)
  | ret (e : E)
  | retN
  | raise (c : Nat) (args : List E)
  | pass
  | brk
  | cont
  | frz (i : Nat)
  | nev

/-! ### operations on data -/
def D.isScal : D → Bool
  | .non => true
  | .bl _ => true
  | .int _ => true
  | .str _ => true
  | _ => false
mutual
/-- as the library's data -/
def D.py : D → Option PyData
  | .non => some .none
  | .bl b => some (.bool b)
  | .int i => some (.int i)
  | .str x => some (.str x)
  | .tup xs => (D.pyAll xs).map .tuple
  | .lst xs => (D.pyAll xs).map .list
  | _ => none
def D.pyAll : List D → Option (List PyData)
  | [] => some []
  | d :: ds => (D.py d).bind fun x => (D.pyAll ds).map (x :: ·)
end
/-- data that == may compare -/
def D.cmpOk (d : D) : Option PyData := match D.py d with
  | some p => if SeqAt.shaped p then some p else none
  | none => none
/-- == -/
def dEq (x y : D) : Option Bool := match x, y with
  | .non, .non => some true
  | .non, .bl _ => some false
  | .non, .int _ => some false
  | .non, .str _ => some false
  | .bl _, .non => some false
  | .int _, .non => some false
  | .str _, .non => some false
  | .bl a, .bl b => some (a == b)
  | .int a, .int b => some (a == b)
  | .str a, .str b => some (decide (a = b))
  | .int _, .str _ => some false
  | .str _, .int _ => some false
  | x, y => (D.cmpOk x).bind fun p => (D.cmpOk y).map fun q => PyData.eqv p q

def D.seq? : D → Option (List D)
  | .tup xs => some xs
  | .lst xs => some xs
  | _ => none
/-- == of scalars -/
def eqS : D → D → Bool
  | .non, .non => true
  | .bl a, .bl b => a == b
  | .bl a, .int b => (if a then 1 else 0) == b
  | .int a, .bl b => a == (if b then 1 else 0)
  | .int a, .int b => a == b
  | .str a, .str b => a == b
  | _, _ => false
/-- x in ys -/
def dIn (x : D) (ys : List D) : Option Bool :=
  if x.isScal && ys.all D.isScal then some (ys.any fun y => eqS y x)
  else (D.cmpOk x).bind fun p => (D.pyAll ys).bind fun qs => if SeqAt.shaped (.list qs) then some (qs.any fun q => PyData.eqv q p) else none

/-- ys.index(x) -/
def dIndex (x : D) (ys : List D) : Option D :=
  if x.isScal && ys.all D.isScal then (ys.findIdx? fun y => eqS y x).map fun j => .int (j : Nat)
  else (D.cmpOk x).bind fun p => (D.pyAll ys).bind fun qs => if SeqAt.shaped (.list qs) then (qs.findIdx? fun q => PyData.eqv q p).map fun j => .int (j : Nat) else none

/-- truth -/
def D.tr (m : Sto) : D → Option Bool
  | .non => some false
  | .bl b => some b
  | .int i => some (i != 0)
  | .str x => if x.length ≤ sizeLine then some ((x.length : Int) != 0) else none
  | .tup xs => some (!xs.isEmpty)
  | .lst xs => some (!xs.isEmpty)
  | .loc n => match m[n]? with
    | some (.lst xs) => some (!xs.isEmpty)
    | none => none
  | .obj _ _ => none
  | .rng _ _ => none

def bigMul : Nat := 1000000
/-- ints whose product may be made -/
def mulOk (i j : Int) : Bool := decide (i.natAbs < 18446744073709551616) || decide (j.natAbs < 18446744073709551616)
def dBin (op : Operator) (x y : D) : Option D := match op, x, y with
  | .Add, .int i, .int j => some (.int (i + j))
  | .Add, .str a, .str b => if a.length + b.length ≤ sizeLine then some (.str (a ++ b)) else none
  | .Add, .tup a, .tup b => if a.length + b.length ≤ sizeLine then some (.tup (a ++ b)) else none
  | .Add, .lst a, .lst b => if a.length + b.length ≤ sizeLine then some (.lst (a ++ b)) else none
  | .Sub, .int i, .int j => some (.int (i - j))
  | .Mult, .int i, .int j => if mulOk i j then some (.int (i * j)) else none
  | .Mult, .tup a, .int j => if -1000 ≤ j ∧ j ≤ 1000 ∧ a.length ≤ 1000 then some (.tup (List.replicate j.toNat a).flatten) else none
  | .FloorDiv, .int i, .int j => if 0 < j ∧ j < 1073741824 then some (.int (i / j)) else none
  | .Mod, .int i, .int j => if 0 < j then some (.int (i % j)) else none
  | .Pow, .int i, .int j => if 0 ≤ j ∧ j ≤ 1000000 ∧ i.natAbs < 2 ^ 64 then some (.int (i ^ j.toNat)) else none
  | .BitAnd, .int i, .int j => some (.int (Builtin.bitAnd i j))
  | .BitOr, .int i, .int j => some (.int (Builtin.bitOr i j))
  | .BitXor, .int i, .int j => some (.int (Builtin.bitXor i j))
  | _, _, _ => none

/-- a constant on the right of 'is' -/
def dIs (x y : D) : Option Bool := match x, y with
  | .non, .non => some true
  | .bl a, .bl b => some (decide (a = b))
  | _, .non => some false
  | _, _ => none

def dCmp (op : CmpOp) (x y : D) : Option Bool := match op with
  | .Eq => dEq x y
  | .NotEq => (dEq x y).map not
  | .Is => dIs x y
  | .IsNot => (dIs x y).map not
  | .Lt => (match x, y with
    | .int i, .int j => some (decide (i < j))
    | _, _ => none)
  | .LtE => (match x, y with
    | .int i, .int j => some (decide (i ≤ j))
    | _, _ => none)
  | .Gt => (match x, y with
    | .int i, .int j => some (decide (j < i))
    | _, _ => none)
  | .GtE => (match x, y with
    | .int i, .int j => some (decide (j ≤ i))
    | _, _ => none)
  | .In => (match y with
    | .tup ys => dIn x ys
    | .lst ys => dIn x ys
    | _ => none)
  | .NotIn => (match y with
    | .tup ys => (dIn x ys).map not
    | .lst ys => (dIn x ys).map not
    | _ => none)

def dIdx (m : Sto) (x y : D) : Option D := match x, y with
  | .tup xs, .int i => L2.atI xs i
  | .lst xs, .int i => L2.atI xs i
  | .loc n, .int i => (match m[n]? with
    | some (.lst xs) => L2.atI xs i
    | none => none)
  | .str z, .int i => if z.length ≤ sizeLine then (L2.atI z.cps.toList i).map fun c => .str ⟨#[c]⟩ else none
  | _, _ => none

/-- the items lo to hi -/
def cutL {α : Type} (xs : List α) (lo hi : Option Int) : List α := (xs.drop (HT.sIx xs.length 0 lo)).take (HT.sIx xs.length xs.length hi - HT.sIx xs.length 0 lo)
def dSlc (x : D) (lo hi : Option Int) : Option D := match x with
  | .tup xs => some (.tup (cutL xs lo hi))
  | .lst xs => some (.lst (cutL xs lo hi))
  | _ => none
/-- a slice's bound -/
def partOf : List D → Option (Option Int)
  | [] => some none
  | [.int i] => some (some i)
  | _ => none
def D.int? : D → Option Int
  | .int i => some i
  | _ => none
def D.bl? : D → Option Bool
  | .bl b => some b
  | _ => none
def bls? (xs : List D) : Option (List Bool) := xs.mapM D.bl?
def ints? (xs : List D) : Option (List Int) := xs.mapM D.int?

def D.isTy : D → Ty → Option Bool
  | .non, _ => some false
  | .bl _, t => some (t == .bool || t == .int)
  | .int _, t => some (t == .int)
  | .str _, t => some (t == .str)
  | .tup _, t => some (t == .tuple)
  | .lst _, t => some (t == .list)
  | _, _ => none

def dBI (m : Sto) (b : BI) (xs : List D) : Option D := match b, xs with
  | .len, [.tup ys] => some (.int ys.length)
  | .len, [.lst ys] => some (.int ys.length)
  | .len, [.loc n] => (match m[n]? with
    | some (.lst ys) => some (.int ys.length)
    | none => none)
  | .len, [.str z] => if z.length ≤ sizeLine then some (.int z.length) else none
  | .int, [.int i] => some (.int i)
  | .int, [.bl k] => some (.int (if k then 1 else 0))
  | .bool, [.bl k] => some (.bl k)
  | .bool, [.int i] => some (.bl (i != 0))
  | .abs, [.int i] => some (.int (if i < 0 then -i else i))
  | .max2, [.int i, .int j] => some (.int (if j > i then j else i))
  | .min2, [.int i, .int j] => some (.int (if j < i then j else i))
  | .tuple, [.tup ys] => some (.tup ys)
  | .tuple, [.lst ys] => some (.tup ys)
  | .list, [.tup ys] => some (.lst ys)
  | .list, [.lst ys] => some (.lst ys)
  | .any, [.lst ys] => (bls? ys).map fun bs => .bl (bs.any id)
  | .all, [.lst ys] => (bls? ys).map fun bs => .bl (bs.all id)
  | .sum, [.lst ys] => (ints? ys).map fun ns => .int ns.sum
  | .range, [.int j] => some (.rng 0 j)
  | .range, [.int i, .int j] => some (.rng i j)
  | .isinst t, [x] => (x.isTy t).map .bl
  | .index, [.lst ys, x] => dIndex x ys
  | _, _ => none

/-- whose method it is -/
def mTy (b : BI) (x : D) : Bool := match b, x with
  | .index, .lst _ => true
  | _, _ => false
def rgOk (a b : Int) : Prop := -(2 ^ 62) ≤ a ∧ a < 2 ^ 62 ∧ -(2 ^ 62) ≤ b ∧ b < 2 ^ 62
instance (a b : Int) : Decidable (rgOk a b) := by unfold rgOk; exact inferInstance
def rgL (a b : Int) : List D := (List.range (b - a).toNat).map fun k => .int (a + (k : Nat))
def rgOf : List D → Option (Int × Int)
  | [.int j] => if rgOk 0 j then some (0, j) else none
  | [.int i, .int j] => if rgOk i j then some (i, j) else none
  | _ => none
/-- the items that a loop walks -/
def dIter (ik : IK) (xs : List D) : Option (List D) := match ik, xs with
  | .seq, [.tup ys] => some ys
  | .seq, [.lst ys] => some ys
  | .seq, [.rng a b] => if rgOk a b then some (rgL a b) else none
  | .range, xs => (rgOf xs).map fun p => rgL p.1 p.2
  | .enum, [.tup ys] => some (ys.zipIdx.map fun p => .tup [.int (p.2 : Nat), p.1])
  | .enum, [.lst ys] => some (ys.zipIdx.map fun p => .tup [.int (p.2 : Nat), p.1])
  | .zip, [.tup ys, .tup zs] => some ((ys.zip zs).map fun p => .tup [p.1, p.2])
  | .zip, [.lst ys, .lst zs] => some ((ys.zip zs).map fun p => .tup [p.1, p.2])
  | .rev, [.tup ys] => some ys.reverse
  | .rev, [.lst ys] => some ys.reverse
  | .revRange, xs => (rgOf xs).map fun p => (rgL p.1 p.2).reverse
  | _, _ => none

/-- an assignment's targets -/
def put (l : Lo) (i : Nat) (s : Sl) : Lo := l.set i s
mutual
def Tg.set : Tg → D → Lo → Option Lo
  | .name i, d, l => some (put l i (.val d))
  | .tup ts, .tup xs, l => Tg.setAll ts xs l
  | .tup _, _, _ => none
def Tg.setAll : List Tg → List D → Lo → Option Lo
  | [], [], l => some l
  | t :: ts, x :: xs, l => (Tg.set t x l).bind fun l' => Tg.setAll ts xs l'
  | _, _, _ => none
end
/-- none of these slots holds a list of the frame's own -/
def Sl.isOwn : Sl → Bool
  | .own _ => true
  | _ => false
def ownAtB (l : Lo) (i : Nat) : Bool := match l[i]? with
  | some s => s.isOwn
  | none => false
def ownFree (l : Lo) (own : List Nat) : Bool := own.all fun i => !ownAtB l i
/-- an error is not let out -/
def noX {α : Type} (r : Res α) : Res α := match r with
  | .exc _ _ => .bad
  | r => r
def wipeL (l : Lo) : List Nat → Lo
  | [] => l
  | v :: vs => (wipeL l vs).set v .no

/-- the arguments in the parameters' order: positional ones, keywords by place, defaults -/
def argVec {α : Type} (dfl : List (Option α)) (pos : List α) (kp : List Nat) (kw : List α) : Option (List α) :=
  if pos.length ≤ dfl.length ∧ kp.length = kw.length then
    (dfl.zipIdx.mapM fun p => match pos[p.2]? with
      | some d => some d
      | none => match (kp.zip kw).lookup p.2 with
        | some d => some d
        | none => p.1)
  else none

def ofO {α : Type} (o : Option α) (m : Sto) : Res α := match o with
  | some a => .ok a m
  | none => .bad

/-- what the evaluator is given: module constants, classes (their fields' names), the parameters' defaults of defs and classes -/
structure Gs where
  cs : List D
  cls : List (List Str)
  dfl : List (List (Option D))
  cdf : List (List (Option D))
  W : Nat

section
variable (G : Gs) (cal : Nat → List D → Sto → Res D)

def itFold {α : Type} (f : D → α → Sto → Res α) : List D → α → Sto → Res α
  | [], a, m => .ok a m
  | d :: ds, a, m => (f d a m).bind fun a' m' => itFold f ds a' m'

/-- the value of a name that may be a list of the frame's own -/
def Sl.get : Sl → Option D
  | .val d => some d
  | .own xs => some (.lst xs)
  | .no => none
def Sl.get1 : Sl → Option D
  | .val d => some d
  | _ => none

/-- how an expression is asked: its value; its value as an operand (a name may stand for a list of the frame's own); its truth -/
inductive Md where
  | p | b | t
def Md.get : Md → Sl → Option D
  | .p, s => s.get1
  | _, s => s.get
/-- the end: in a test the truth -/
def fin (md : Md) (r : Res D) : Res D := match md with
  | .t => r.bind fun x m => (ofO (x.tr m) m).bind fun b m => .ok (.bl b) m
  | _ => r
mutual
def evM : E → Md → Lo → Sto → Res D
  | .var i, md, l, m => fin md (ofO (l[i]?.bind md.get) m)
  | .cst d, md, _, m => fin md (.ok d m)
  | .glb j, md, _, m => fin md (ofO G.cs[j]? m)
  | .tup es, md, l, m => fin md ((evL es .p l m).bind fun xs m => if xs.length ≤ sizeLine then .ok (.tup xs) m else .bad)
  | .lst es, md, l, m => fin md ((evL es .p l m).bind fun xs m => if xs.length ≤ sizeLine then .ok (.lst xs) m else .bad)
  | .mls es, md, l, m => fin md ((evL es .p l m).bind fun xs m => if xs.length ≤ sizeLine then .ok (.loc m.length) (m ++ [.lst xs]) else .bad)
  | .bin op a b, md, l, m => fin md ((evM a .b l m).bind fun x m => (evM b .b l m).bind fun y m => ofO (dBin op x y) m)
  | .neg a, md, l, m => fin md ((evM a .p l m).bind fun x m => match x with
    | .int i => .ok (.int (-i)) m
    | _ => .bad)
  | .nt a, md, l, m => (match md with
    | .t => (evM a .t l m).bind fun x m => match x with
      | .bl b => .ok (.bl (!b)) m
      | _ => .bad
    | _ => (evM a .b l m).bind fun x m => (ofO (x.tr m) m).bind fun b m => .ok (.bl (!b)) m)
  | .cmp op a b, _, l, m => (evM a .b l m).bind fun x m => (evM b .b l m).bind fun y m => (ofO (dCmp op x y) m).bind fun b m => .ok (.bl b) m
  | .chain op op2 a b c, _, l, m => (evM a .b l m).bind fun x m => (evM b .b l m).bind fun y m => (ofO (dCmp op x y) m).bind fun k m =>
    if k then (evM c .b l m).bind fun z m => (ofO (dCmp op2 y z) m).bind fun k m => .ok (.bl k) m else .ok (.bl false) m
  | .bool and es, md, l, m => (match md with
    | .t => evTs and es l m
    | _ => evBo and es l m)
  | .ite c a b, md, l, m => (match md with
    | .t => .bad
    | _ => (evM c .t l m).bind fun k m => match k with
      | .bl true => evM a .p l m
      | .bl false => evM b .p l m
      | _ => .bad)
  | .idx a i, md, l, m => fin md ((evM a .b l m).bind fun x m => (evM i .p l m).bind fun y m => ofO (dIdx m x y) m)
  | .slc a lo hi, md, l, m => fin md ((evM a .b l m).bind fun x m => (evL lo .p l m).bind fun u m => (ofO (partOf u) m).bind fun o m => (evL hi .p l m).bind fun v m => (ofO (partOf v) m).bind fun o2 m => ofO (dSlc x o o2) m)
  | .fld a f, md, l, m => fin md ((evM a .p l m).bind fun x m => match x with
    | .obj c xs => ofO ((G.cls[c]?).bind fun fs => (fs.zip xs).lookup f) m
    | _ => .bad)
  | .call f args kp kws, md, l, m => fin md ((evL args .p l m).bind fun xs m => (evL kws .p l m).bind fun ys m => match (G.dfl[f]?).bind fun df => argVec df xs kp ys with
    | some vs => cal f vs m
    | none => .bad)
  | .mk c args kp kws, md, l, m => fin md ((evL args .p l m).bind fun xs m => (evL kws .p l m).bind fun ys m => match (G.cdf[c]?).bind fun df => argVec df xs kp ys with
    | some vs => .ok (.obj c vs) m
    | none => .bad)
  | .bcall b args, md, l, m => fin md ((evL args .b l m).bind fun xs m => ofO (dBI m b xs) m)
  | .mcl b o args, md, l, m => fin md ((evM o .b l m).bind fun x m => if mTy b x then (evL args .b l m).bind fun xs m => ofO (dBI m b (x :: xs)) m else .bad)
  | .lc elt tg ik its ifs own, md, l, m => fin md ((evL its .b l m).bind fun xs m => match dIter ik xs with
    | some ds => if ownFree l own then
        (noX (itFold (fun d acc m => match Tg.set tg d (wipeL l own) with
          | some l' => (evTs true ifs l' m).bind fun k m => match k with
            | .bl true => (evM elt .p l' m).bind fun y m => .ok (acc ++ [y]) m
            | .bl false => .ok acc m
            | _ => .bad
          | none => .bad) ds ([] : List D) m)).bind fun ys m => if ys.length ≤ sizeLine then .ok (.lst ys) m else .bad
      else .bad
    | none => .bad)
  | .nev, _, _, _ => .bad
def evL : List E → Md → Lo → Sto → Res (List D)
  | [], _, _, m => .ok [] m
  | e :: es, md, l, m => (evM e md l m).bind fun x m => (evL es md l m).bind fun xs m => .ok (x :: xs) m
/-- and, or as values -/
def evBo : Bool → List E → Lo → Sto → Res D
  | _, [], _, _ => .bad
  | and, e :: es, l, m => match es with
    | [] => evM e .p l m
    | _ => (evM e .p l m).bind fun x m => (ofO (x.tr m) m).bind fun k m => if k == and then evBo and es l m else .ok x m
/-- and, or as a test -/
def evTs : Bool → List E → Lo → Sto → Res D
  | and, [], _, m => .ok (.bl and) m
  | and, e :: es, l, m => (evM e .t l m).bind fun k m => match k with
    | .bl k => if k == and then evTs and es l m else .ok (.bl k) m
    | _ => .bad
end

/-! ### statements -/
/-- an expression within a block: an error takes the slots along -/
def lift {α : Type} (l : Lo) (r : Res α) (f : α → Sto → Res Out) : Res Out := match r with
  | .ok a m => f a m
  | .exc e m => .ok (.ex e l) m
  | .bad => .bad
def liftO {α : Type} (o : Option α) (f : α → Res Out) : Res Out := match o with
  | some a => f a
  | none => .bad
/-- behind a turn -/
def again (o : Out) (m : Sto) (f : Lo → Sto → Res Out) : Res Out := match o with
  | .nx l => f l m
  | .ct l => f l m
  | .bk l => .ok (.nx l) m
  | .rt d => .ok (.rt d) m
  | .ex e l => .ok (.ex e l) m
def forL (tg : Tg) (body : Lo → Sto → Res Out) : List D → Lo → Sto → Res Out
  | [], l, m => .ok (.nx l) m
  | d :: ds, l, m => liftO (tg.set d l) fun l' => (body l' m).bind fun o m => again o m fun l m => forL tg body ds l m
/-- over the list at a location, as it stands at each turn -/
def forML (tg : Tg) (n : Nat) (body : Lo → Sto → Res Out) : Nat → Nat → Lo → Sto → Res Out
  | 0, _, _, _ => .bad
  | w + 1, k, l, m => match m[n]? with
    | some (.lst xs) => (match xs[k]? with
      | none => .ok (.nx l) m
      | some d => liftO (tg.set d l) fun l' => (body l' m).bind fun o m => again o m fun l m => forML tg n body w (k + 1) l m)
    | none => .bad
def whlL (test : Lo → Sto → Res D) (body : Lo → Sto → Res Out) : Nat → Lo → Sto → Res Out
  | 0, _, _ => .bad
  | n + 1, l, m => lift l (test l m) fun k m => match k with
    | .bl true => (body l m).bind fun o m => again o m fun l m => whlL test body n l m
    | .bl false => .ok (.nx l) m
    | _ => .bad
/-- what a list's method does to the list -/
def dMth (b : Mth) (xs : List D) (as : List D) : Option (List D) := match b, as with
  | .append, [d] => if xs.length < sizeLine then some (xs ++ [d]) else none
  | .extend, [.lst ys] => if xs.length + ys.length ≤ sizeLine then some (xs ++ ys) else none
  | .insert, [.int i, d] => if 0 ≤ i ∧ i ≤ xs.length ∧ xs.length < sizeLine then some (xs.take i.toNat ++ d :: xs.drop i.toNat) else none
  | .reverse, [] => some xs.reverse
  | _, _ => none
/-- how its arguments are read -/
def mthMd : Mth → Md
  | .extend => .b
  | _ => .p
/-- pop: the item, the rest -/
def dPop (xs : List D) (as : List D) : Option (D × List D) := match as with
  | [] => (xs[xs.length - 1]?).map fun d => (d, xs.dropLast)
  | [.int i] => if -(2 ^ 63) ≤ i ∧ i < 2 ^ 63 then (seqIndex? i xs.length).bind fun k => (xs[k]?).map fun d => (d, xs.eraseIdx k) else none
  | _ => none
/-- a list that a name or a location stands for, and how it is changed -/
inductive Pl where
  | sl (i : Nat)
  | lc (n : Nat)
def Pl.xs (p : Pl) (l : Lo) (m : Sto) : Option (List D) := match p with
  | .sl i => (match l[i]? with
    | some (.own xs) => some xs
    | _ => none)
  | .lc n => (match m[n]? with
    | some (.lst xs) => some xs
    | none => none)
def Pl.put (p : Pl) (xs : List D) (l : Lo) (m : Sto) : Lo × Sto := match p with
  | .sl i => (l.set i (.own xs), m)
  | .lc n => (l, m.set n (.lst xs))
/-- the place that an expression stands for -/
def plE (e : E) (l : Lo) (m : Sto) : Res Pl := match e with
  | .var i => (match l[i]? with
    | some (.own _) => .ok (.sl i) m
    | some (.val (.loc n)) => .ok (.lc n) m
    | _ => .bad)
  | e => (evM G cal e .p l m).bind fun d m => match d with
    | .loc n => .ok (.lc n) m
    | _ => .bad

mutual
def evS : S → Lo → Sto → Res Out
  | .asg t e, l, m => lift l (evM G cal e .p l m) fun d m => liftO (t.set d l) fun l' => .ok (.nx l') m
  | .own i e, l, m => lift l (evM G cal e .p l m) fun d m => match d with
    | .lst xs => .ok (.nx (l.set i (.own xs))) m
    | _ => .bad
  | .setI o i e, l, m => lift l (evM G cal e .p l m) fun d m => lift l (plE G cal o l m) fun p m => lift l (evM G cal i .p l m) fun j m => match j with
    | .int j => liftO (p.xs l m) fun xs => liftO (L2.ixN xs.length j) fun n => .ok (.nx (p.put (xs.set n d) l m).1) (p.put (xs.set n d) l m).2
    | _ => .bad
  | .meth b o as, l, m => lift l (plE G cal o l m) fun p m => lift l (evL G cal as (mthMd b) l m) fun as m => liftO (p.xs l m) fun xs => liftO (dMth b xs as) fun ys =>
    .ok (.nx (p.put ys l m).1) (p.put ys l m).2
  | .popA i o as, l, m => lift l (plE G cal o l m) fun p m => lift l (evL G cal as .p l m) fun as m => liftO (p.xs l m) fun xs => liftO (dPop xs as) fun r =>
    .ok (.nx ((p.put r.2 l m).1.set i (.val r.1))) (p.put r.2 l m).2
  | .expr e, l, m => lift l (evM G cal e .p l m) fun _ m => .ok (.nx l) m
  | .ite c a b, l, m => lift l (evM G cal c .t l m) fun k m => match k with
    | .bl true => evSs a l m
    | .bl false => evSs b l m
    | _ => .bad
  | .for tg ik its body, l, m => lift l (evL G cal its .p l m) fun xs m => liftO (dIter ik xs) fun ds => forL tg (evSs body) ds l m
  | .forM tg e body, l, m => lift l (evM G cal e .p l m) fun d m => match d with
    | .loc n => forML tg n (evSs body) G.W 0 l m
    | _ => .bad
  | .whl c body, l, m => whlL (evM G cal c .t) (evSs body) G.W l m
  | .ret e, l, m => lift l (evM G cal e .b l m) fun d m => .ok (.rt d) m
  | .retN, _, m => .ok (.rt .non) m
  | .raise c as, l, m => lift l (evL G cal as .p l m) fun xs m => .ok (.ex ⟨c, xs⟩ l) m
  | .pass, l, m => .ok (.nx l) m
  | .brk, l, m => .ok (.bk l) m
  | .cont, l, m => .ok (.ct l) m
  | .frz i, l, m => (match l[i]? with
    | some (.own xs) => .ok (.nx (l.set i (.val (.lst xs)))) m
    | _ => .bad)
  | .nev, _, _ => .bad
def evSs : List S → Lo → Sto → Res Out
  | [], l, m => .ok (.nx l) m
  | s :: ss, l, m => (evS s l m).bind fun o m => match o with
    | .nx l => evSs ss l m
    | o => .ok o m
end
end

/-- a def: its parameters' number, its slots, its body -/
structure FnI where
  np : Nat
  ns : Nat
  body : List S
structure Prog where
  G : Gs
  fns : List FnI
def lo0 (fi : FnI) (args : List D) : Lo := args.map .val ++ List.replicate (fi.ns - args.length) .no
/-- a body's end, as a call's -/
def endOf (o : Out) (m : Sto) : Res D := match o with
  | .nx _ => .ok .non m
  | .rt d => .ok d m
  | .ex e _ => .exc e m
  | _ => .bad
def fnSem (P : Prog) : Nat → Nat → List D → Sto → Res D
  | 0, _, _, _ => .bad
  | k + 1, f, args, m => match P.fns[f]? with
    | some fi => if args.length = fi.np then (evSs P.G (fnSem P k) fi.body (lo0 fi args) m).bind endOf else .bad
    | none => .bad
end Ev

set_option Elab.async false
set_option linter.all false
set_option maxRecDepth 100000
set_option maxHeartbeats 2000000
/-! Ev1: how data lies in the layer's heap. -/
namespace Ev
open PySem PySem.Spec PyProof.Rows L2

/-- what stands in the written part -/
def KT (K : PySem.W.Frag) (a : Addr) (xs : List V) : Prop :=
  ∃ (o : Obj) (its : Array Value) (n : Nat), K.lookup a = some o ∧ o.cls = .type "tuple" ∧ o.data = .seq its n ∧ its.size ≤ sizeLine ∧ Vals xs its.toList

/-- the text: its written part, its classes' addresses, the evaluator's tables -/
structure Tx where
  K : PySem.W.Frag
  ca : Nat → Addr
  G : Gs

/-- a heap with what may change (M), where no value may lie (A), where the locations are -/
structure Wd where
  H : Hp
  M : Addr → Prop
  A : Addr → Prop
  r : List Addr

variable (T : Tx) in
mutual
def Rep (W : Wd) : D → V → Prop
  | .non, v => v = .non
  | .bl b, v => v = .bl b
  | .int i, v => v = .int i
  | .str x, v => v = .str x
  | .tup xs, v => ∃ a vs, v = .ref a ∧ ((Rd W.H a (.tup vs) ∧ ¬ W.M a ∧ ¬ W.A a) ∨ KT T.K a vs) ∧ Reps W xs vs
  | .lst xs, v => ∃ a vs, v = .ref a ∧ Rd W.H a (.lst vs) ∧ ¬ W.M a ∧ ¬ W.A a ∧ Reps W xs vs
  | .loc n, v => ∃ a, v = .ref a ∧ W.r[n]? = some a
  | .obj c xs, v => ∃ a dx vs ns, v = .ref a ∧ T.G.cls[c]? = some ns ∧ W.H a = some (.ins (T.ca c) dx (ns.zip vs)) ∧ ¬ W.M a ∧ ¬ W.A a ∧ ns.length = vs.length ∧ Reps W xs vs
  | .rng lo hi, v => ∃ a, v = .ref a ∧ W.H a = some (.rng lo hi) ∧ ¬ W.M a ∧ ¬ W.A a
def Reps (W : Wd) : List D → List V → Prop
  | [], vs => vs = []
  | d :: ds, vs => ∃ v r, vs = v :: r ∧ Rep W d v ∧ Reps W ds r
end

structure Ext (W W' : Wd) : Prop where
  keep : ∀ a o, W.H a = some o → ¬ W.M a → W'.H a = some o
  mu : ∀ a o, W.H a = some o → ¬ W.M a → ¬ W'.M a
  av : ∀ a o, W.H a = some o → ¬ W.A a → ¬ W'.A a
  pre : ∀ (n : Nat) a, W.r[n]? = some a → W'.r[n]? = some a
  live : ∀ a o, W.H a = some o → ∃ o', W'.H a = some o'

theorem Ext.refl (W : Wd) : Ext W W := ⟨fun _ _ h _ => h, fun _ _ _ h => h, fun _ _ _ h => h, fun _ _ h => h, fun _ o h => ⟨o, h⟩⟩
theorem Ext.trans {W W1 W2 : Wd} (x : Ext W W1) (y : Ext W1 W2) : Ext W W2 := by
  refine ⟨fun a o h m => y.keep a o (x.keep a o h m) (x.mu a o h m), fun a o h m => y.mu a o (x.keep a o h m) (x.mu a o h m), fun a o h na => ?_, fun n a h => y.pre n a (x.pre n a h), fun a o h => ?_⟩
  · obtain ⟨o1, e⟩ := x.live a o h
    exact y.av a o1 e (x.av a o h na)
  · obtain ⟨o1, e⟩ := x.live a o h
    exact y.live a o1 e

section
variable {T : Tx} {W W' : Wd}
theorem Rd.ext {a : Addr} {u : HO} (x : Ext W W') (h : Rd W.H a u) (m : ¬ W.M a) : Rd W'.H a u := by
  rcases h with h | ⟨o, h⟩
  · exact .inl (x.keep a _ h m)
  · exact .inr ⟨o, x.keep a _ h m⟩
theorem Rd.mu {a : Addr} {u : HO} (x : Ext W W') (h : Rd W.H a u) (m : ¬ W.M a) : ¬ W'.M a := by
  rcases h with h | ⟨o, h⟩
  · exact x.mu a _ h m
  · exact x.mu a _ h m
theorem Rd.av {a : Addr} {u : HO} (x : Ext W W') (h : Rd W.H a u) (m : ¬ W.A a) : ¬ W'.A a := by
  rcases h with h | ⟨o, h⟩
  · exact x.av a _ h m
  · exact x.av a _ h m
mutual
theorem Rep.ext (x : Ext W W') : ∀ (d : D) (v : V), Rep T W d v → Rep T W' d v
  | .non, _, h => h
  | .bl _, _, h => h
  | .int _, _, h => h
  | .str _, _, h => h
  | .tup xs, _, ⟨a, vs, e, h, r⟩ => ⟨a, vs, e, h.imp (fun ⟨h1, h2, h3⟩ => ⟨Rd.ext x h1 h2, Rd.mu x h1 h2, Rd.av x h1 h3⟩) id, Reps.ext x xs vs r⟩
  | .lst xs, _, ⟨a, vs, e, h1, h2, h3, r⟩ => ⟨a, vs, e, Rd.ext x h1 h2, Rd.mu x h1 h2, Rd.av x h1 h3, Reps.ext x xs vs r⟩
  | .loc n, _, ⟨a, e, h⟩ => ⟨a, e, x.pre n a h⟩
  | .obj c xs, _, ⟨a, dx, vs, ns, e, h0, h1, h2, h3, h4, r⟩ => ⟨a, dx, vs, ns, e, h0, x.keep a _ h1 h2, x.mu a _ h1 h2, x.av a _ h1 h3, h4, Reps.ext x xs vs r⟩
  | .rng lo hi, _, ⟨a, e, h1, h2, h3⟩ => ⟨a, e, x.keep a _ h1 h2, x.mu a _ h1 h2, x.av a _ h1 h3⟩
theorem Reps.ext (x : Ext W W') : ∀ (ds : List D) (vs : List V), Reps T W ds vs → Reps T W' ds vs
  | [], _, h => h
  | d :: ds, _, ⟨v, r, e, h1, h2⟩ => ⟨v, r, e, Rep.ext x d v h1, Reps.ext x ds r h2⟩
end
theorem Reps.nil : Reps T W [] [] := rfl
theorem Reps.cons {d : D} {ds : List D} {v : V} {vs : List V} (h : Rep T W d v) (t : Reps T W ds vs) : Reps T W (d :: ds) (v :: vs) := ⟨v, vs, rfl, h, t⟩
theorem Reps.length : ∀ {ds : List D} {vs : List V}, Reps T W ds vs → ds.length = vs.length
  | [], _, h => by
    cases (show _ = [] from h)
    rfl
  | d :: ds, _, h => by
    obtain ⟨v, r, rfl, _, t⟩ := h
    simp [Reps.length t]
theorem Reps.get : ∀ {ds : List D} {vs : List V} {i : Nat} {d : D}, Reps T W ds vs → ds[i]? = some d → ∃ v, vs[i]? = some v ∧ Rep T W d v
  | [], _, _, _, _, e => by simp at e
  | _ :: _, _, 0, _, h, e => by
    obtain ⟨v, r, rfl, h1, _⟩ := h
    simp at e
    subst e
    exact ⟨v, rfl, h1⟩
  | _ :: ds, _, i + 1, d, h, e => by
    obtain ⟨v, r, rfl, _, t⟩ := h
    obtain ⟨u, e1, h1⟩ := Reps.get (i := i) (d := d) t (by simpa using e)
    exact ⟨u, by simpa using e1, h1⟩
theorem Reps.getV {ds : List D} {vs : List V} {i : Nat} {v : V} (h : Reps T W ds vs) (e : vs[i]? = some v) : ∃ d, ds[i]? = some d ∧ Rep T W d v := by
  have hl := h.length
  have hi : i < ds.length := by
    have := (List.getElem?_eq_some_iff.mp e).1
    omega
  obtain ⟨u, e1, h1⟩ := h.get (List.getElem?_eq_getElem hi)
  rw [e] at e1
  cases e1
  exact ⟨_, List.getElem?_eq_getElem hi, h1⟩
theorem Reps.append : ∀ {ds es : List D} {vs us : List V}, Reps T W ds vs → Reps T W es us → Reps T W (ds ++ es) (vs ++ us)
  | [], _, _, _, h, t => by
    cases (show _ = [] from h)
    exact t
  | _ :: _, _, _, _, h, t => by
    obtain ⟨v, r, rfl, h1, h2⟩ := h
    exact Reps.cons h1 (Reps.append h2 t)
theorem Reps.set : ∀ {ds : List D} {vs : List V} (i : Nat) {d : D} {v : V}, Reps T W ds vs → Rep T W d v → Reps T W (ds.set i d) (vs.set i v)
  | [], _, _, _, _, h, _ => by
    cases (show _ = [] from h)
    exact Reps.nil
  | _ :: _, _, 0, _, _, h, q => by
    obtain ⟨v, r, rfl, _, h2⟩ := h
    exact Reps.cons q h2
  | _ :: _, _, i + 1, _, _, h, q => by
    obtain ⟨v, r, rfl, h1, h2⟩ := h
    exact Reps.cons h1 (Reps.set i h2 q)
theorem Reps.take : ∀ {ds : List D} {vs : List V} (n : Nat), Reps T W ds vs → Reps T W (ds.take n) (vs.take n)
  | _, _, 0, _ => by simpa using Reps.nil
  | [], _, _ + 1, h => by
    cases (show _ = [] from h)
    exact Reps.nil
  | _ :: _, _, n + 1, h => by
    obtain ⟨v, r, rfl, h1, h2⟩ := h
    exact Reps.cons h1 (Reps.take n h2)
theorem Reps.drop : ∀ {ds : List D} {vs : List V} (n : Nat), Reps T W ds vs → Reps T W (ds.drop n) (vs.drop n)
  | _, _, 0, h => h
  | [], _, _ + 1, h => by
    cases (show _ = [] from h)
    exact Reps.nil
  | _ :: _, _, n + 1, h => by
    obtain ⟨v, r, rfl, h1, h2⟩ := h
    exact Reps.drop n h2
theorem Reps.eraseIdx : ∀ {ds : List D} {vs : List V} (n : Nat), Reps T W ds vs → Reps T W (ds.eraseIdx n) (vs.eraseIdx n)
  | [], _, _, h => by
    cases (show _ = [] from h)
    exact Reps.nil
  | _ :: _, _, 0, h => by
    obtain ⟨v, r, rfl, h1, h2⟩ := h
    exact h2
  | _ :: _, _, n + 1, h => by
    obtain ⟨v, r, rfl, h1, h2⟩ := h
    exact Reps.cons h1 (Reps.eraseIdx n h2)
theorem Reps.reverse : ∀ {ds : List D} {vs : List V}, Reps T W ds vs → Reps T W ds.reverse vs.reverse
  | [], _, h => by
    cases (show _ = [] from h)
    exact Reps.nil
  | _ :: _, _, h => by
    obtain ⟨v, r, rfl, h1, h2⟩ := h
    rw [List.reverse_cons, List.reverse_cons]
    exact Reps.append (Reps.reverse h2) (Reps.cons h1 Reps.nil)
theorem Reps.rep {ds : List D} {vs : List V} (h : Reps T W ds vs) : ∀ k : Nat, Reps T W (List.replicate k ds).flatten (List.replicate k vs).flatten
  | 0 => by simpa using Reps.nil
  | k + 1 => by
    rw [List.replicate_succ, List.replicate_succ, List.flatten_cons, List.flatten_cons]
    exact Reps.append h (Reps.rep h k)
theorem Reps.dropLast {ds : List D} {vs : List V} (h : Reps T W ds vs) : Reps T W ds.dropLast vs.dropLast := by
  rw [List.dropLast_eq_take, List.dropLast_eq_take, h.length]
  exact h.take _
theorem Reps.ints : ∀ {ns : List Int} {vs : List V}, Reps T W (ns.map .int) vs → vs = ns.map V.int
  | [], _, h => h
  | n :: ns, _, h => by
    obtain ⟨v, r, rfl, h1, h2⟩ := h
    rw [Reps.ints h2, (show v = .int n from h1)]
    rfl
theorem Reps.of_ints : ∀ {ns : List Int}, Reps T W (ns.map .int) (ns.map V.int)
  | [] => rfl
  | _ :: _ => Reps.cons rfl Reps.of_ints
theorem Reps.of_get : ∀ {ds : List D} {vs : List V}, ds.length = vs.length → (∀ (i : Nat) d v, ds[i]? = some d → vs[i]? = some v → Rep T W d v) → Reps T W ds vs
  | [], [], _, _ => rfl
  | [], _ :: _, h, _ => by simp at h
  | _ :: _, [], h, _ => by simp at h
  | d :: ds, v :: vs, hl, h => Reps.cons (h 0 d v rfl rfl) (Reps.of_get (by simpa using hl) fun i d v e1 e2 => h (i + 1) d v (by simpa using e1) (by simpa using e2))

/-! ### reading -/
theorem KT.sq {K : PySem.W.Frag} {a : Addr} {xs : List V} {H : Hp} (h : KT K a xs) : SqT K H a xs := .inr h
theorem Rep.tup {xs : List D} {v : V} (h : Rep T W (.tup xs) v) : ∃ a vs, v = .ref a ∧ SqT T.K W.H a vs ∧ Reps T W xs vs := by
  obtain ⟨a, vs, e, h, r⟩ := h
  exact ⟨a, vs, e, h.elim (fun z => .inl z.1) KT.sq, r⟩
theorem Rep.lst {xs : List D} {v : V} (h : Rep T W (.lst xs) v) : ∃ a vs, v = .ref a ∧ SqL T.K W.H a vs ∧ Reps T W xs vs := by
  obtain ⟨a, vs, e, h, _, _, r⟩ := h
  exact ⟨a, vs, e, .inl h, r⟩
mutual
theorem Rep.dp : ∀ (d : D) (v : V) (p : PyData), Rep T W d v → D.py d = some p → Dp T.K W.H v p
  | .non, _, _, h, e => by
    cases (show _ = V.non from h)
    cases (show some PyData.none = some _ from e)
    exact .non
  | .bl b, _, _, h, e => by
    cases (show _ = V.bl b from h)
    cases (show some (PyData.bool b) = some _ from e)
    exact .bl b
  | .int i, _, _, h, e => by
    cases (show _ = V.int i from h)
    cases (show some (PyData.int i) = some _ from e)
    exact .int i
  | .str x, _, _, h, e => by
    cases (show _ = V.str x from h)
    cases (show some (PyData.str x) = some _ from e)
    exact .str x
  | .tup xs, v, p, h, e => by
    obtain ⟨a, vs, rfl, s, r⟩ := Rep.tup h
    have e' : (D.pyAll xs).map PyData.tuple = some p := e
    obtain ⟨ps, e1, rfl⟩ := Option.map_eq_some_iff.mp e'
    exact .tup s (Reps.dp xs vs ps r e1)
  | .lst xs, v, p, h, e => by
    obtain ⟨a, vs, rfl, s, r⟩ := Rep.lst h
    have e' : (D.pyAll xs).map PyData.list = some p := e
    obtain ⟨ps, e1, rfl⟩ := Option.map_eq_some_iff.mp e'
    exact .lst s (Reps.dp xs vs ps r e1)
  | .loc _, _, _, _, e => by cases (show none = some _ from e)
  | .obj _ _, _, _, _, e => by cases (show none = some _ from e)
  | .rng _ _, _, _, _, e => by cases (show none = some _ from e)
theorem Reps.dp : ∀ (ds : List D) (vs : List V) (ps : List PyData), Reps T W ds vs → D.pyAll ds = some ps → DpAll T.K W.H vs ps
  | [], _, _, h, e => by
    cases (show _ = [] from h)
    cases (show some [] = some _ from e)
    exact .nil
  | d :: ds, vs, ps, h, e => by
    obtain ⟨v, r, rfl, h1, h2⟩ := h
    have e' : ((D.py d).bind fun x => (D.pyAll ds).map (x :: ·)) = some ps := e
    obtain ⟨q, e1, e2⟩ := Option.bind_eq_some_iff.mp e'
    obtain ⟨qs, e3, rfl⟩ := Option.map_eq_some_iff.mp e2
    exact .cons (Rep.dp d v q h1 e1) (Reps.dp ds r qs h2 e3)
end
end

/-! ### the state -/
/-- the lists of a frame's own -/
def OwnAt (l : Lo) (σ : L2.St) (a : Addr) : Prop := ∃ (i : Nat) (xs : List D), l[i]? = some (.own xs) ∧ σ[i]? = some (some (.ref a))
def wd (Av : Addr → Prop) (r : List Addr) (l : Lo) (σ : L2.St) (H : Hp) : Wd := ⟨H, fun a => a ∈ r ∨ OwnAt l σ a, fun a => Av a ∨ a ∈ r ∨ OwnAt l σ a, r⟩
/-- a slot's value -/
def SlotOk (T : Tx) (Av : Addr → Prop) (W : Wd) (s : Sl) (o : Option V) : Prop := match s with
  | .no => True
  | .val d => ∃ v, o = some v ∧ Rep T W d v
  | .own xs => ∃ a vs, o = some (.ref a) ∧ W.H a = some (.lst vs) ∧ Reps T W xs vs ∧ ¬ Av a ∧ a ∉ W.r
structure SR (T : Tx) (Av : Addr → Prop) (r : List Addr) (m : Sto) (l : Lo) (σ : L2.St) (H : Hp) : Prop where
  len : l.length = σ.length
  alv : ∀ a, Av a → H a ≠ none
  mlen : r.length = m.length
  nd : r.Nodup
  rAv : ∀ a ∈ r, ¬ Av a
  mem : ∀ (n : Nat) xs a, m[n]? = some (.lst xs) → r[n]? = some a → ∃ vs, H a = some (.lst vs) ∧ Reps T (wd Av r l σ H) xs vs
  slot : ∀ (i : Nat) s o, l[i]? = some s → σ[i]? = some o → SlotOk T Av (wd Av r l σ H) s o
  inj : ∀ (i j : Nat) xs ys a, l[i]? = some (.own xs) → l[j]? = some (.own ys) → σ[i]? = some (some (.ref a)) → σ[j]? = some (some (.ref a)) → i = j

section
variable {T : Tx} {Av : Addr → Prop} {r : List Addr} {m : Sto} {l : Lo} {σ : L2.St} {H : Hp}
theorem SR.loc_at (h : SR T Av r m l σ H) {a : Addr} (ha : a ∈ r) : ∃ vs, H a = some (.lst vs) := by
  obtain ⟨n, hn⟩ := List.getElem?_of_mem ha
  have hl : n < m.length := by
    have := (List.getElem?_eq_some_iff.mp hn).1
    have := h.mlen
    omega
  cases e : m[n]? with
  | none => rw [List.getElem?_eq_none_iff] at e; omega
  | some o =>
    cases o with
    | lst xs =>
      obtain ⟨vs, hv, _⟩ := h.mem n xs a e hn
      exact ⟨vs, hv⟩
theorem SR.own_at (h : SR T Av r m l σ H) {i : Nat} {xs : List D} (e : l[i]? = some (.own xs)) : ∃ a vs, σ[i]? = some (some (.ref a)) ∧ H a = some (.lst vs) ∧ Reps T (wd Av r l σ H) xs vs ∧ ¬ Av a ∧ a ∉ r := by
  have hl : i < σ.length := by
    have := (List.getElem?_eq_some_iff.mp e).1
    have := h.len
    omega
  have eo : σ[i]? = some σ[i] := List.getElem?_eq_getElem hl
  obtain ⟨a, vs, e1, h1, h2, h3, h4⟩ := h.slot i _ _ e eo
  exact ⟨a, vs, by rw [eo, e1], h1, h2, h3, h4⟩
theorem SR.mutAlive (h : SR T Av r m l σ H) {a : Addr} (ha : a ∈ r ∨ OwnAt l σ a) : H a ≠ none := by
  rcases ha with ha | ⟨i, xs, e, es⟩
  · obtain ⟨vs, q⟩ := h.loc_at ha
    rw [q]
    simp
  · obtain ⟨b, vs, e1, q, _⟩ := h.own_at e
    rw [es] at e1
    cases e1
    rw [q]
    simp
theorem SR.alive (h : SR T Av r m l σ H) {a : Addr} (ha : (wd Av r l σ H).A a) : H a ≠ none := by
  rcases ha with ha | ha
  · exact h.alv a ha
  · exact h.mutAlive ha
/-- a new address is no one's -/
theorem SR.freshA (h : SR T Av r m l σ H) {p : Addr} (hp : H p = none) : ¬ (wd Av r l σ H).A p := fun z => h.alive z hp
theorem SR.freshM (h : SR T Av r m l σ H) {p : Addr} (hp : H p = none) : ¬ (wd Av r l σ H).M p := fun z => h.mutAlive z hp
end
end Ev

set_option Elab.async false
set_option linter.all false
set_option maxRecDepth 100000
set_option maxHeartbeats 2000000
/-! Ev2: states that change; what an expression's evaluation says of the layer's readings. -/
namespace Ev
open PySem PySem.Spec PyProof.Rows L2

section
variable {T : Tx} {Av : Addr → Prop} {r : List Addr} {m : Sto} {l : Lo} {σ : L2.St} {H : Hp}
/-- a new object of the layer's -/
theorem Ext.new (S : SR T Av r m l σ H) {p : Addr} {o : HO} (hp : H p = none) : Ext (wd Av r l σ H) (wd Av r l σ (upd H p o)) := by
  have ne : ∀ a u, H a = some u → a ≠ p := fun a u h e => by rw [e, hp] at h; cases h
  refine ⟨fun a u h _ => ?_, fun a u h n => n, fun a u h n => n, fun n a h => h, fun a u h => ⟨u, ?_⟩⟩
  · show upd H p o a = some u
    rw [upd_ne (ne a u h)]
    exact h
  · show upd H p o a = some u
    rw [upd_ne (ne a u h)]
    exact h
theorem SlotOk.ext {W W' : Wd} (x : Ext W W') (hr : ∀ a, a ∉ W.r → (∃ o, W.H a = some o) → a ∉ W'.r) :
    ∀ {s : Sl} {o : Option V}, (∀ xs a vs, s = .own xs → o = some (.ref a) → a ∉ W.r → W.H a = some (.lst vs) → W'.H a = some (.lst vs)) → SlotOk T Av W s o → SlotOk T Av W' s o
  | .no, _, _, _ => trivial
  | .val d, _, _, ⟨v, e, h⟩ => ⟨v, e, Rep.ext x d v h⟩
  | .own xs, o, hm, ⟨a, vs, e, h1, h2, h3, h4⟩ => ⟨a, vs, e, hm xs a vs rfl e h4 h1, Reps.ext x xs vs h2, h3, hr a h4 ⟨_, h1⟩⟩
theorem SR.new (S : SR T Av r m l σ H) {p : Addr} {o : HO} (hp : H p = none) : SR T Av r m l σ (upd H p o) := by
  have x := Ext.new S (o := o) hp
  have ne : ∀ a u, H a = some u → a ≠ p := fun a u h e => by rw [e, hp] at h; cases h
  refine ⟨S.len, fun a ha => ?_, S.mlen, S.nd, S.rAv, fun n xs a e1 e2 => ?_, fun i s ov e1 e2 => ?_, S.inj⟩
  · by_cases e : a = p
    · rw [e, upd_same]; simp
    · rw [upd_ne e]; exact S.alv a ha
  · obtain ⟨vs, h1, h2⟩ := S.mem n xs a e1 e2
    exact ⟨vs, by rw [upd_ne (ne a _ h1)]; exact h1, Reps.ext x xs vs h2⟩
  · refine SlotOk.ext x (fun a h _ => h) (fun xs a vs _ _ _ h => ?_) (S.slot i s ov e1 e2)
    show upd H p o a = _
    rw [upd_ne (ne a _ h)]
    exact h
/-- a new tuple, list, record as a value -/
theorem Rep.newTup (S : SR T Av r m l σ H) {p : Addr} {xs : List D} {vs : List V} (hp : H p = none) (h : Reps T (wd Av r l σ H) xs vs) : Rep T (wd Av r l σ (upd H p (.tup vs))) (.tup xs) (.ref p) :=
  ⟨p, vs, rfl, .inl ⟨.inl upd_same, fun z => S.freshM hp z, fun z => S.freshA hp z⟩, Reps.ext (Ext.new S hp) xs vs h⟩
theorem Rep.newLst (S : SR T Av r m l σ H) {p : Addr} {xs : List D} {vs : List V} (hp : H p = none) (h : Reps T (wd Av r l σ H) xs vs) : Rep T (wd Av r l σ (upd H p (.lst vs))) (.lst xs) (.ref p) :=
  ⟨p, vs, rfl, .inl upd_same, fun z => S.freshM hp z, fun z => S.freshA hp z, Reps.ext (Ext.new S hp) xs vs h⟩
end

/-! ### what is to be shown of an evaluation -/
/-- an error's way out (none as yet) -/
def Xp (X : Cx) (T : Tx) (Av : Addr → Prop) (W : Wd) (l : Lo) (σ : L2.St) (e : Ex) (m : Sto) : Prop := False
theorem Xp.mono {X : Cx} {T : Tx} {Av : Addr → Prop} {W W1 : Wd} {l : Lo} {σ : L2.St} {e : Ex} {m : Sto} (x : Ext W W1) (h : Xp X T Av W l σ e m) : Xp X T Av W1 l σ e m := h

abbrev PP (α : Type) := α → Sto → List Addr → Hp → Prop
def Wpe {α : Type} (X : Cx) (T : Tx) (Av : Addr → Prop) (W : Wd) (l : Lo) (σ : L2.St) (q : Res α) (P : PP α) : Prop := match q with
  | .ok a m => ∀ r' H', SR T Av r' m l σ H' → Ext W (wd Av r' l σ H') → P a m r' H'
  | .exc e m => Xp X T Av W l σ e m
  | .bad => False
section
variable {X : Cx} {T : Tx} {Av : Addr → Prop} {W : Wd} {l : Lo} {σ : L2.St} {α β : Type}
theorem Wpe.bind {q : Res α} {f : α → Sto → Res β} {P : PP β} (h : Wpe X T Av W l σ (q.bind f) P) :
    Wpe X T Av W l σ q fun a m r H => Wpe X T Av (wd Av r l σ H) l σ (f a m) P := by
  cases q with
  | ok a m =>
    intro r' H' S x
    have h1 : Wpe X T Av W l σ (f a m) P := h
    show Wpe X T Av (wd Av r' l σ H') l σ (f a m) P
    cases e : f a m with
    | ok b m2 =>
      rw [e] at h1
      exact fun r2 H2 S2 x2 => h1 r2 H2 S2 (x.trans x2)
    | exc z m2 =>
      rw [e] at h1
      exact Xp.mono (X := X) (T := T) (Av := Av) (l := l) (σ := σ) (e := z) (m := m2) x h1
    | bad =>
      rw [e] at h1
      exact h1
  | exc e m => exact h
  | bad => exact h
theorem Wpe.imp {q : Res α} {P P' : PP α} (h : Wpe X T Av W l σ q P) (hp : ∀ a m r H, q = .ok a m → SR T Av r m l σ H → Ext W (wd Av r l σ H) → P a m r H → P' a m r H) : Wpe X T Av W l σ q P' := by
  cases q with
  | ok a m => exact fun r' H' S x => hp a m r' H' rfl S x (h r' H' S x)
  | exc e m => exact h
  | bad => exact h
/-- where the evaluation says a value at once -/
theorem Wpe.ok {a : α} {m : Sto} {P : PP α} {r : List Addr} {H : Hp} (h : Wpe X T Av (wd Av r l σ H) l σ (.ok a m) P) (S : SR T Av r m l σ H) : P a m r H := h r H S (Ext.refl _)
theorem Wpe.opt {o : Option α} {m : Sto} {P : PP α} {r : List Addr} {H : Hp} (h : Wpe X T Av (wd Av r l σ H) l σ (ofO o m) P) (S : SR T Av r m l σ H) : ∃ a, o = some a ∧ P a m r H := by
  cases o with
  | none => exact h.elim
  | some a => exact ⟨a, rfl, Wpe.ok h S⟩
/-- the same, the heap may still grow -/
theorem Wpe.okE {a : α} {m : Sto} {P : PP α} {r : List Addr} {H : Hp} (h : Wpe X T Av (wd Av r l σ H) l σ (.ok a m) P) {r' : List Addr} {H' : Hp} (S : SR T Av r' m l σ H') (x : Ext (wd Av r l σ H) (wd Av r' l σ H')) : P a m r' H' := h r' H' S x
theorem Wpe.optE {o : Option α} {m : Sto} {P : PP α} {r : List Addr} {H : Hp} (h : Wpe X T Av (wd Av r l σ H) l σ (ofO o m) P) : ∃ a, o = some a ∧ ∀ r' H', SR T Av r' m l σ H' → Ext (wd Av r l σ H) (wd Av r' l σ H') → P a m r' H' := by
  cases o with
  | none => exact h.elim
  | some a => exact ⟨a, rfl, h⟩
end

/-- an operand's value: it may be the list of a slot -/
def RepB (T : Tx) (W : Wd) (l : Lo) (σ : L2.St) (d : D) (v : V) : Prop := Rep T W d v ∨ ∃ (i : Nat) (xs : List D) (a : Addr), d = .lst xs ∧ l[i]? = some (.own xs) ∧ σ[i]? = some (some (.ref a)) ∧ v = .ref a
def RepM (T : Tx) (W : Wd) (l : Lo) (σ : L2.St) (md : Md) (d : D) (v : V) : Prop := match md with
  | .p => Rep T W d v
  | _ => RepB T W l σ d v
theorem RepB.ext {T : Tx} {W W' : Wd} {l : Lo} {σ : L2.St} {d : D} {v : V} (x : Ext W W') (h : RepB T W l σ d v) : RepB T W' l σ d v := h.imp (fun z => Rep.ext x d v z) id

section
variable (X : Cx) (T : Tx) (cal : Nat → List D → Sto → Res D)
/-- an expression's reading, by its evaluation -/
def tE (md : Md) (e : E) : TE := fun σ H Q => ∃ (Av : Addr → Prop) (r : List Addr) (m : Sto) (l : Lo), SR T Av r m l σ H ∧
  Wpe X T Av (wd Av r l σ H) l σ (evM T.G cal e md l m) fun d m' r' H' => ∀ v, RepM T (wd Av r' l σ H') l σ md d v → Q v H'
def tT (e : E) : TT := fun σ H Q => ∃ (Av : Addr → Prop) (r : List Addr) (m : Sto) (l : Lo), SR T Av r m l σ H ∧
  Wpe X T Av (wd Av r l σ H) l σ (evM T.G cal e .t l m) fun d m' r' H' => ∀ b, d = .bl b → Q b H'
def RepsM (W : Wd) (l : Lo) (σ : L2.St) (md : Md) : List D → List V → Prop
  | [], vs => vs = []
  | d :: ds, vs => ∃ v r, vs = v :: r ∧ RepM T W l σ md d v ∧ RepsM W l σ md ds r
def tL (md : Md) (es : List E) : TA := fun σ H Q => ∃ (Av : Addr → Prop) (r : List Addr) (m : Sto) (l : Lo), SR T Av r m l σ H ∧
  Wpe X T Av (wd Av r l σ H) l σ (evL T.G cal es md l m) fun ds m' r' H' => ∀ vs, RepsM T (wd Av r' l σ H') l σ md ds vs → Q vs H'
end

theorem PE.imp {X : Cx} {e : Expr} {t t' : TE} (h : PE X e t) (i : ∀ σ H Q, t' σ H Q → t σ H Q) : PE X e t' := ⟨fun pins s σ H Q I hq => h.run pins s σ H Q I (i σ H Q hq)⟩
theorem PT.imp {X : Cx} {e : Expr} {t t' : TT} (h : PT X e t) (i : ∀ σ H Q, t' σ H Q → t σ H Q) : PT X e t' := ⟨fun pins s σ H Q I hq => h.run pins s σ H Q I (i σ H Q hq)⟩
theorem PW.imp {X : Cx} {e : Expr} {t t' : TT} (h : PW X e t) (i : ∀ σ H Q, t' σ H Q → t σ H Q) : PW X e t' := ⟨fun wh pins s σ H Q I hq => h.run wh pins s σ H Q I (i σ H Q hq)⟩
theorem PA.imp {X : Cx} {es : List Expr} {t t' : TA} (h : PA X es t) (i : ∀ σ H Q, t' σ H Q → t σ H Q) : PA X es t' := ⟨fun pos pins s σ H Q I hq => h.run pos pins s σ H Q I (i σ H Q hq)⟩
theorem PI.imp {X : Cx} {tg e : Expr} {t t' : TI} (h : PI X tg e t) (i : ∀ σ H R, t' σ H R → t σ H R) : PI X tg e t' := ⟨fun pins s σ H Q I hq => h.run pins s σ H Q I (i σ H Q hq)⟩

/-! ### operands read -/
section
variable {X : Cx} {T : Tx} {Av : Addr → Prop} {r : List Addr} {m : Sto} {l : Lo} {σ : L2.St} {H : Hp}
theorem RepB.rep_of {W : Wd} {d : D} {v : V} (h : RepB T W l σ d v) (hn : ∀ xs, d ≠ .lst xs) : Rep T W d v := by
  rcases h with h | ⟨i, xs, a, e, _⟩
  · exact h
  · exact absurd e (hn xs)
theorem RepB.lst (S : SR T Av r m l σ H) {xs : List D} {v : V} (h : RepB T (wd Av r l σ H) l σ (.lst xs) v) : ∃ a vs, v = .ref a ∧ Rd H a (.lst vs) ∧ Reps T (wd Av r l σ H) xs vs := by
  rcases h with ⟨a, vs, e, h1, _, _, h2⟩ | ⟨i, ys, a, e, e1, e2, e3⟩
  · exact ⟨a, vs, e, h1, h2⟩
  · cases e
    obtain ⟨b, vs, e4, h1, h2, _⟩ := S.own_at e1
    rw [e2] at e4
    cases e4
    exact ⟨a, vs, e3, .inl h1, h2⟩
theorem RepB.tup {W : Wd} {xs : List D} {v : V} (h : RepB T W l σ (.tup xs) v) : ∃ a vs, v = .ref a ∧ SqT T.K W.H a vs ∧ Reps T W xs vs := Rep.tup (h.rep_of fun _ e => nomatch e)
theorem RepB.int {W : Wd} {i : Int} {v : V} (h : RepB T W l σ (.int i) v) : v = .int i := h.rep_of fun _ e => nomatch e
theorem RepB.str {W : Wd} {i : Str} {v : V} (h : RepB T W l σ (.str i) v) : v = .str i := h.rep_of fun _ e => nomatch e
theorem RepB.bl {W : Wd} {i : Bool} {v : V} (h : RepB T W l σ (.bl i) v) : v = .bl i := h.rep_of fun _ e => nomatch e
theorem RepB.non {W : Wd} {v : V} (h : RepB T W l σ .non v) : v = .non := h.rep_of fun _ e => nomatch e
theorem RepB.dp (S : SR T Av r m l σ H) {d : D} {v : V} {p : PyData} (h : RepB T (wd Av r l σ H) l σ d v) (e : D.py d = some p) : Dp T.K H v p := by
  rcases h with h | ⟨i, xs, a, rfl, e1, e2, rfl⟩
  · exact Rep.dp d v p h e
  · obtain ⟨b, vs, e4, h1, h2, _⟩ := S.own_at e1
    rw [e2] at e4
    cases e4
    have e' : (D.pyAll xs).map PyData.list = some p := e
    obtain ⟨ps, e5, rfl⟩ := Option.map_eq_some_iff.mp e'
    exact .lst (.inl (.inl h1)) (Reps.dp xs vs ps h2 e5)
theorem RepM.toB {W : Wd} {md : Md} {d : D} {v : V} (h : RepM T W l σ md d v) : RepB T W l σ d v := by
  cases md with
  | p => exact .inl h
  | b => exact h
  | t => exact h
theorem Rep.toM {W : Wd} {md : Md} {d : D} {v : V} (h : Rep T W d v) : RepM T W l σ md d v := by
  cases md with
  | p => exact h
  | b => exact .inl h
  | t => exact .inl h
theorem RepsM.reps {W : Wd} : ∀ {ds : List D} {vs : List V}, RepsM T W l σ .p ds vs → Reps T W ds vs
  | [], _, h => h
  | _ :: _, _, ⟨v, r, e, h1, h2⟩ => ⟨v, r, e, h1, RepsM.reps h2⟩
theorem RepsM.ext {W W' : Wd} {md : Md} (x : Ext W W') : ∀ {ds : List D} {vs : List V}, RepsM T W l σ md ds vs → RepsM T W' l σ md ds vs
  | [], _, h => h
  | d :: ds, _, ⟨v, r, e, h1, h2⟩ => ⟨v, r, e, by
      cases md with
      | p => exact Rep.ext x d v h1
      | b => exact RepB.ext x h1
      | t => exact RepB.ext x h1, RepsM.ext x h2⟩
/-- truth -/
theorem Rep.truth (S : SR T Av r m l σ H) (hK : X.K = T.K) {d : D} {v : V} {k : Bool} (h : RepB T (wd Av r l σ H) l σ d v) (e : d.tr m = some k) : TruV X.K v H k := by
  rw [hK]
  cases d with
  | non =>
    cases h.non
    cases (show some false = some k from e)
    exact rfl
  | bl b =>
    cases h.bl
    cases (show some b = some k from e)
    exact rfl
  | int i =>
    cases h.int
    cases (show some (i != 0) = some k from e)
    exact rfl
  | str x =>
    cases h.str
    have e' : (if x.length ≤ sizeLine then some ((x.length : Int) != 0) else none) = some k := e
    split at e'
    · rename_i hl
      cases e'
      exact ⟨hl, rfl⟩
    · cases e'
  | tup xs =>
    obtain ⟨a, vs, rfl, s, q⟩ := h.tup
    cases (show some (!xs.isEmpty) = some k from e)
    have hl := q.length
    refine .inr (.inl ⟨vs, s, ?_⟩)
    cases xs <;> cases vs <;> first | rfl | simp at hl
  | lst xs =>
    obtain ⟨a, vs, rfl, s, q⟩ := RepB.lst S h
    cases (show some (!xs.isEmpty) = some k from e)
    have hl := q.length
    refine .inl ⟨vs, .inl s, ?_⟩
    cases xs <;> cases vs <;> first | rfl | simp at hl
  | loc n =>
    obtain ⟨a, rfl, ha⟩ := h.rep_of fun _ e => nomatch e
    have e' : (match m[n]? with
      | some (.lst xs) => some (!xs.isEmpty)
      | none => none) = some k := e
    cases em : m[n]? with
    | none =>
      rw [em] at e'
      cases e'
    | some o =>
      cases o with
      | lst xs =>
        rw [em] at e'
        cases e'
        obtain ⟨vs, h1, q⟩ := S.mem n xs a em ha
        have hl := q.length
        refine .inl ⟨vs, .inl (.inl h1), ?_⟩
        cases xs <;> cases vs <;> first | rfl | simp at hl
  | obj c xs => cases (show none = some k from e)
  | rng a b => cases (show none = some k from e)
end
end Ev

set_option Elab.async false
set_option linter.all false
set_option maxRecDepth 100000
set_option maxHeartbeats 2000000
/-! Ev3: operators by data. -/
namespace Ev
open PySem PySem.Spec PyProof.Rows L2

section
variable {X : Cx}
/-- lists that are read -/
theorem Inv.rdL {pins : List (Addr × Obj)} {σ : L2.St} {H : Hp} {s : Shared} {l : Addr} {xs : List V} (I : Inv X pins σ H s) (h : Rd H l (.lst xs)) :
    xs.length ≤ sizeLine ∧ ∃ (its : List Value) (n : Nat), Vals xs its ∧ xs.length = its.length ∧ s.heap.get? l = some { cls := .type "list", data := .seq its.toArray n } := by
  obtain ⟨z, its, n, r, e⟩ := h.ok I.hok
  exact ⟨z, its, n, r, r.length, e⟩
def rCatR : R2 := fun x y H Q => ∃ l b xs zs, x = .ref l ∧ y = .ref b ∧ Rd H l (.lst xs) ∧ Rd H b (.lst zs) ∧ xs.length + zs.length ≤ sizeLine ∧ ∀ p, H p = none → Q (.ref p) (upd H p (.lst (xs ++ zs)))
theorem op_catR : OpR X (binaryOp .Add) rCatR := by
  intro pins s σ H x y v u Q I rx ry h
  obtain ⟨l, b, xs, zs, rfl, rfl, hH, hB, hz, q⟩ := h
  cases rx
  cases ry
  obtain ⟨z, its, n, r, hl, e⟩ := Inv.rdL I hH
  obtain ⟨z2, its2, n2, r2, hl2, e2⟩ := Inv.rdL I hB
  refine PySem.P.add_list e e2 ?_ (by rw [List.size_toArray, List.size_toArray]; omega)
  have ea : its.toArray ++ its2.toArray = (its ++ its2).toArray := by simp
  rw [ea]
  exact ⟨.ref _, _, I.lnew (t' := s.toks) (r.append r2) (by rw [List.length_append]; omega), rfl, q _ I.fresh⟩
end

section
open PySem
theorem tuple_mul1 (l : Addr) (items : Array Value) (n : Nat) (dd : Option Addr) (sl : Array (Option Value)) (x : Int) (u : Tok) (c0 : (decide (x < -(2 ^ 63)) || decide (x ≥ 2 ^ 63)) = false) (c1 : (items.isEmpty || x == 1) = true) :
    Meets (Builtin.«tuple.__mul__» ⟨[.ref l, .int x u], []⟩) (fun _ R s => s.heap.get? l = some { cls := .type "tuple", dict := dd, data := .seq items n, slots := sl } ∧ R (.ok (.ret (Value.ref l))) s) :=
  .of_wp fun prog w A R s h => by
    obtain ⟨hp, g, d, tk, os⟩ := s
    obtain ⟨hl, h⟩ := h
    have f1 := AutoSeq1.idx_int
    wp_walk using wpAny_loadPart' hl
    repeat (first
      | (refine wpAny_ite_false (decide_eq_false (by rw [c0]; exact Bool.false_ne_true)) ?_; wp_walk using wpAny_loadPart' hl)
      | (refine wpAny_ite_true (decide_eq_true c1) ?_; wp_walk using wpAny_loadPart' hl))
    exact ⟨_, rfl, h⟩
theorem tuple_mul0 (l : Addr) (items : Array Value) (n : Nat) (dd : Option Addr) (sl : Array (Option Value)) (x : Int) (u : Tok) (c0 : (decide (x < -(2 ^ 63)) || decide (x ≥ 2 ^ 63)) = false) (c1 : (items.isEmpty || x == 1) = false) (c2 : (decide (x ≤ 0) || items.isEmpty) = true) :
    Meets (Builtin.«tuple.__mul__» ⟨[.ref l, .int x u], []⟩) (fun _ R s => s.heap.get? l = some { cls := .type "tuple", dict := dd, data := .seq items n, slots := sl } ∧
      R (.ok (.ret (Value.ref s.heap.objs.size))) { s with heap := s.heap.push { cls := Value.type "tuple", data := Data.seq #[] }, toks := s.toks }) :=
  .of_wp fun prog w A R s h => by
    obtain ⟨hp, g, d, tk, os⟩ := s
    obtain ⟨hl, h⟩ := h
    have f1 := AutoSeq1.idx_int
    wp_walk using wpAny_loadPart' hl
    repeat (first
      | (refine wpAny_ite_false (decide_eq_false (by rw [c0]; exact Bool.false_ne_true)) ?_; wp_walk using wpAny_loadPart' hl)
      | (refine wpAny_ite_false (decide_eq_false (by rw [c1]; exact Bool.false_ne_true)) ?_; wp_walk using wpAny_loadPart' hl)
      | (refine wpAny_ite_true (decide_eq_true c2) ?_; wp_walk using wpAny_loadPart' hl))
    exact ⟨_, rfl, h⟩
end
section
variable {X : Cx}
/-- a tuple times an int -/
def rRepA (K : PySem.W.Frag) : R2 := fun x y H Q => ∃ l k xs, x = .ref l ∧ y = .int k ∧ SqT K H l xs ∧ -1000 ≤ k ∧ k ≤ 1000 ∧ xs.length ≤ 1000 ∧ (xs = [] → Q (.ref l) H) ∧ (k = 1 → Q (.ref l) H) ∧ ∀ p, H p = none → Q (.ref p) (upd H p (.tup (List.replicate k.toNat xs).flatten))
theorem op_repA : OpR X (binaryOp .Mult) (rRepA X.K) := by
  intro pins s σ H x y v u Q I rx ry h
  obtain ⟨l, k, xs, rfl, rfl, hT, h0, h2, hz, q0, q1, q⟩ := h
  by_cases hk : 2 ≤ k ∧ xs ≠ []
  · exact op_repT pins s σ H _ _ v u Q I rx ry ⟨l, k, xs, rfl, rfl, hT, hk.2, hk.1, h2, hz, q⟩
  cases rx
  obtain ⟨t, rfl⟩ := ry
  obtain ⟨its, r, ⟨⟨cls, dd, data, sl⟩, ho, hc, n, hd⟩, hs⟩ := I.tuple hT
  simp only at hc hd
  subst hc hd
  have hle : its.length = xs.length := r.length.symm
  have c0 : (decide (k < -(2 ^ 63)) || decide (k ≥ 2 ^ 63)) = false := by
    rw [decide_eq_false (by omega), decide_eq_false (by omega)] <;> rfl
  by_cases hs1 : xs = [] ∨ k = 1
  · have c1 : (its.toArray.isEmpty || k == 1) = true := by
      rcases hs1 with e | e
      · subst e
        have : its = [] := List.length_eq_zero_iff.mp hle
        subst this
        rfl
      · subst e
        simp
    refine wpAny_binaryOp_repeat_ref (T := "tuple") (U := "int") (by decide) ⟨_, ho, rfl⟩ (fun s' => typeIs_int s' k t) noFill_tuple_mul F.fills_int_mul F.slot_int_rmul repeat_tuple F.slot_int_index.lookup
      (call_meets F.slot_int_rmul (typeIs_int s k t) F.entry_int_rmul (F.args_int_rmul_2 _ _) (int_rmul_tuple k t l its.toArray n dd sl)
        ⟨ho, rfl, ⟨_, ho, rfl⟩, call_meets F.slot_tuple_mul ⟨_, ho, rfl⟩ F.entry_tuple_mul (F.args_tuple_mul_2 _ _) (tuple_mul1 l its.toArray n dd sl k t c0 c1) ⟨ho, ?_⟩⟩)
    exact ⟨.ref l, H, I, rfl, hs1.elim q0 q1⟩
  · have hne : xs ≠ [] := fun e => hs1 (.inl e)
    have hk1 : k ≠ 1 := fun e => hs1 (.inr e)
    have hk0 : k ≤ 0 := by
      have : ¬ 2 ≤ k := fun z => hk ⟨z, hne⟩
      omega
    have hn : its ≠ [] := fun e => hne (by
      rw [e] at hle
      exact List.length_eq_zero_iff.mp hle.symm)
    have hi : its.toArray.isEmpty = false := by
      cases its with
      | nil => exact absurd rfl hn
      | cons a b => rfl
    have c1 : (its.toArray.isEmpty || k == 1) = false := by
      rw [hi, Bool.false_or]
      exact beq_eq_false_iff_ne.mpr hk1
    have c2 : (decide (k ≤ 0) || its.toArray.isEmpty) = true := by
      rw [decide_eq_true hk0] <;> rfl
    have e0 : (List.replicate k.toNat xs).flatten = [] := by
      have : k.toNat = 0 := by omega
      rw [this]
      rfl
    rw [e0] at q
    refine wpAny_binaryOp_repeat_ref (T := "tuple") (U := "int") (by decide) ⟨_, ho, rfl⟩ (fun s' => typeIs_int s' k t) noFill_tuple_mul F.fills_int_mul F.slot_int_rmul repeat_tuple F.slot_int_index.lookup
      (call_meets F.slot_int_rmul (typeIs_int s k t) F.entry_int_rmul (F.args_int_rmul_2 _ _) (int_rmul_tuple k t l its.toArray n dd sl)
        ⟨ho, rfl, ⟨_, ho, rfl⟩, call_meets F.slot_tuple_mul ⟨_, ho, rfl⟩ F.entry_tuple_mul (F.args_tuple_mul_2 _ _) (tuple_mul0 l its.toArray n dd sl k t c0 c1 c2) ⟨ho, ?_⟩⟩)
    have hf : H s.heap.objs.size = none := I.hok.fresh (Nat.le_refl _)
    refine ⟨.ref s.heap.objs.size, upd H s.heap.objs.size (.tup []), I.laid (t' := s.toks) (fun b u e => Heap.get?_push_of_some _ e) (Nat.le_refl _) ?_, rfl, q _ hf⟩
    exact ⟨Nat.zero_le _, [], .nil, ⟨_, Heap.get?_push_size _ rfl, rfl, _, rfl⟩⟩
end

/-- what an operator's rule has to do for the data's operation -/
def OpD (X : Cx) (T : Tx) (rr : R2) (f : D → D → Option D) : Prop :=
  ∀ {Av : Addr → Prop} {r : List Addr} {m : Sto} {l : Lo} {σ : L2.St} {H : Hp} {x y z : D} {v u : V}, SR T Av r m l σ H → RepB T (wd Av r l σ H) l σ x v → RepB T (wd Av r l σ H) l σ y u → f x y = some z →
    ∀ Q : VK, (∀ w H', SR T Av r m l σ H' → Ext (wd Av r l σ H) (wd Av r l σ H') → Rep T (wd Av r l σ H') z w → Q w H') → rr v u H Q

theorem map_some {α β : Type} {f : α → β} {o : Option α} {b : β} (h : o.map f = some b) : ∃ a, o = some a ∧ f a = b := Option.map_eq_some_iff.mp h
theorem ite_some {α : Type} {c : Prop} [Decidable c] {a : α} {b : α} (h : (if c then some a else none) = some b) : c ∧ a = b := by
  split at h
  · rename_i hc
    exact ⟨hc, Option.some.inj h⟩
  · cases h

section
variable {X : Cx} {T : Tx}
theorem hereI {Av : Addr → Prop} {r : List Addr} {m : Sto} {l : Lo} {σ : L2.St} {H : Hp} {i : Int} (S : SR T Av r m l σ H) {Q : VK}
    (q : ∀ w H', SR T Av r m l σ H' → Ext (wd Av r l σ H) (wd Av r l σ H') → Rep T (wd Av r l σ H') (.int i) w → Q w H') : Q (.int i) H := q _ H S (Ext.refl _) rfl
theorem hereS {Av : Addr → Prop} {r : List Addr} {m : Sto} {l : Lo} {σ : L2.St} {H : Hp} {i : Str} (S : SR T Av r m l σ H) {Q : VK}
    (q : ∀ w H', SR T Av r m l σ H' → Ext (wd Av r l σ H) (wd Av r l σ H') → Rep T (wd Av r l σ H') (.str i) w → Q w H') : Q (.str i) H := q _ H S (Ext.refl _) rfl
theorem here {Av : Addr → Prop} {r : List Addr} {m : Sto} {l : Lo} {σ : L2.St} {H : Hp} {z : D} {w : V} (S : SR T Av r m l σ H) (h : Rep T (wd Av r l σ H) z w) {Q : VK}
    (q : ∀ w H', SR T Av r m l σ H' → Ext (wd Av r l σ H) (wd Av r l σ H') → Rep T (wd Av r l σ H') z w → Q w H') : Q w H := q w H S (Ext.refl _) h

theorem bin_add (hK : X.K = T.K) : ∃ rr, OpR X (binaryOp .Add) rr ∧ OpD X T rr (dBin .Add) := by
  refine ⟨_, op_add.or (op_add_str.or (op_catA.or op_catR)), ?_⟩
  intro Av r m l σ H x y z v u S hx hy e Q q
  cases x with
  | int i =>
    cases y with
    | int j =>
      cases (show some (D.int (i + j)) = some z from e)
      exact .inl ⟨i, j, hx.int, hy.int, hereI S q⟩
    | _ => cases e
  | str a =>
    cases y with
    | str b =>
      obtain ⟨h1, rfl⟩ := ite_some (show (if a.length + b.length ≤ sizeLine then some (D.str (a ++ b)) else none) = some z from e)
      exact .inr (.inl ⟨a, b, hx.str, hy.str, h1, hereS S q⟩)
    | _ => cases e
  | tup xs =>
    cases y with
    | tup ys =>
      obtain ⟨h1, rfl⟩ := ite_some (show (if xs.length + ys.length ≤ sizeLine then some (D.tup (xs ++ ys)) else none) = some z from e)
      have hx0 := hx.rep_of fun _ e => nomatch e
      have hy0 := hy.rep_of fun _ e => nomatch e
      obtain ⟨a, vs, rfl, s1, r1⟩ := hx.tup
      obtain ⟨b, us, rfl, s2, r2⟩ := hy.tup
      have l1 := r1.length
      have l2 := r2.length
      refine .inr (.inr (.inl ⟨a, b, vs, us, rfl, rfl, by rw [hK]; exact s1, by rw [hK]; exact s2, by omega, fun e => ?_, fun e1 e2 => ?_, fun e1 e2 p hp => ?_⟩))
      · subst e
        have : xs = [] := List.length_eq_zero_iff.mp (by rw [l1]; rfl)
        subst this
        exact here S hy0 q
      · subst e2
        have : ys = [] := List.length_eq_zero_iff.mp (by rw [l2]; rfl)
        subst this
        rw [List.append_nil] at q
        exact here S hx0 q
      · exact q _ _ (S.new hp) (Ext.new S hp) (Rep.newTup S hp (r1.append r2))
    | _ => cases e
  | lst xs =>
    cases y with
    | lst ys =>
      obtain ⟨h1, rfl⟩ := ite_some (show (if xs.length + ys.length ≤ sizeLine then some (D.lst (xs ++ ys)) else none) = some z from e)
      obtain ⟨a, vs, rfl, s1, r1⟩ := hx.lst S
      obtain ⟨b, us, rfl, s2, r2⟩ := hy.lst S
      have l1 := r1.length
      have l2 := r2.length
      exact .inr (.inr (.inr ⟨a, b, vs, us, rfl, rfl, s1, s2, by omega, fun p hp => q _ _ (S.new hp) (Ext.new S hp) (Rep.newLst S hp (r1.append r2))⟩))
    | _ => cases e
  | _ => cases e
theorem bin_int {op : Operator} {C : Int → Int → Prop} {g : Int → Int → Int} (ho : OpR X (binaryOp op) (rI C fun i j => .int (g i j))) (hd : ∀ x y z, dBin op x y = some z → ∃ i j, x = .int i ∧ y = .int j ∧ C i j ∧ z = .int (g i j)) :
    ∃ rr, OpR X (binaryOp op) rr ∧ OpD X T rr (dBin op) := by
  refine ⟨_, ho, ?_⟩
  intro Av r m l σ H x y z v u S hx hy e Q q
  obtain ⟨i, j, rfl, rfl, c, rfl⟩ := hd x y z e
  exact ⟨i, j, hx.int, hy.int, c, hereI S q⟩
theorem bin_int0 {op : Operator} {g : Int → Int → Int} (ho : OpR X (binaryOp op) (rI0 fun i j => .int (g i j))) (hd : ∀ x y z, dBin op x y = some z → ∃ i j, x = .int i ∧ y = .int j ∧ z = .int (g i j)) :
    ∃ rr, OpR X (binaryOp op) rr ∧ OpD X T rr (dBin op) := by
  refine ⟨_, ho, ?_⟩
  intro Av r m l σ H x y z v u S hx hy e Q q
  obtain ⟨i, j, rfl, rfl, rfl⟩ := hd x y z e
  exact ⟨i, j, hx.int, hy.int, hereI S q⟩
theorem bin_sub : ∃ rr, OpR X (binaryOp .Sub) rr ∧ OpD X T rr (dBin .Sub) := bin_int0 op_sub fun x y z e => by
  cases x <;> cases y <;> cases e
  exact ⟨_, _, rfl, rfl, rfl⟩
theorem bin_fdiv : ∃ rr, OpR X (binaryOp .FloorDiv) rr ∧ OpD X T rr (dBin .FloorDiv) := bin_int op_fdiv fun x y z e => by
  cases x with
  | int i =>
    cases y with
    | int j =>
      obtain ⟨h, rfl⟩ := ite_some (show (if 0 < j ∧ j < 1073741824 then some (D.int (i / j)) else (none : Option D)) = some z from e)
      exact ⟨i, j, rfl, rfl, h, rfl⟩
    | _ => cases e
  | _ => cases e
theorem bin_mod : ∃ rr, OpR X (binaryOp .Mod) rr ∧ OpD X T rr (dBin .Mod) := bin_int op_mod fun x y z e => by
  cases x with
  | int i =>
    cases y with
    | int j =>
      obtain ⟨h, rfl⟩ := ite_some (show (if 0 < j then some (D.int (i % j)) else (none : Option D)) = some z from e)
      exact ⟨i, j, rfl, rfl, h, rfl⟩
    | _ => cases e
  | _ => cases e
theorem bin_pow : ∃ rr, OpR X (binaryOp .Pow) rr ∧ OpD X T rr (dBin .Pow) := bin_int op_pow fun x y z e => by
  cases x with
  | int i =>
    cases y with
    | int j =>
      obtain ⟨h, rfl⟩ := ite_some (show (if 0 ≤ j ∧ j ≤ 1000000 ∧ i.natAbs < 2 ^ 64 then some (D.int (i ^ j.toNat)) else (none : Option D)) = some z from e)
      exact ⟨i, j, rfl, rfl, h, rfl⟩
    | _ => cases e
  | _ => cases e
theorem bin_and : ∃ rr, OpR X (binaryOp .BitAnd) rr ∧ OpD X T rr (dBin .BitAnd) := bin_int0 op_and fun x y z e => by
  cases x <;> cases y <;> cases e
  exact ⟨_, _, rfl, rfl, rfl⟩
theorem bin_or : ∃ rr, OpR X (binaryOp .BitOr) rr ∧ OpD X T rr (dBin .BitOr) := bin_int0 op_or fun x y z e => by
  cases x <;> cases y <;> cases e
  exact ⟨_, _, rfl, rfl, rfl⟩
theorem bin_xor : ∃ rr, OpR X (binaryOp .BitXor) rr ∧ OpD X T rr (dBin .BitXor) := bin_int0 op_xor fun x y z e => by
  cases x <;> cases y <;> cases e
  exact ⟨_, _, rfl, rfl, rfl⟩
theorem rep_zero {α : Type} {k : Int} {xs : List α} (h : xs = []) : (List.replicate k.toNat xs).flatten = [] := by
  subst h
  simp
theorem bin_mult (hK : X.K = T.K) : ∃ rr, OpR X (binaryOp .Mult) rr ∧ OpD X T rr (dBin .Mult) := by
  refine ⟨_, op_mul.or op_repA, ?_⟩
  intro Av r m l σ H x y z v u S hx hy e Q q
  cases x with
  | int i =>
    cases y with
    | int j =>
      obtain ⟨h1, rfl⟩ := ite_some (show (if mulOk i j = true then some (D.int (i * j)) else none) = some z from e)
      refine .inl ⟨i, j, hx.int, hy.int, ?_, hereI S q⟩
      unfold mulOk at h1
      rw [Bool.or_eq_true, decide_eq_true_eq, decide_eq_true_eq] at h1
      rcases h1 with h1 | h1
      · exact .inl (by omega)
      · exact .inr (by omega)
    | _ => cases e
  | tup xs =>
    cases y with
    | int j =>
      obtain ⟨⟨h1, h2, h3⟩, rfl⟩ := ite_some (show (if -1000 ≤ j ∧ j ≤ 1000 ∧ xs.length ≤ 1000 then some (D.tup (List.replicate j.toNat xs).flatten) else (none : Option D)) = some z from e)
      have hx0 := hx.rep_of fun _ e => nomatch e
      obtain ⟨a, vs, rfl, s1, r1⟩ := hx.tup
      have l1 := r1.length
      refine .inr ⟨a, j, vs, rfl, hy.int, by rw [hK]; exact s1, h1, h2, by omega, fun e => ?_, fun e => ?_, fun p hp => ?_⟩
      · subst e
        have : xs = [] := List.length_eq_zero_iff.mp (by rw [l1]; rfl)
        subst this
        have e2 : (List.replicate j.toNat ([] : List D)).flatten = [] := by simp
        rw [e2] at q
        exact here S hx0 q
      · subst e
        have e2 : (List.replicate (1 : Int).toNat xs).flatten = xs := by simp
        rw [e2] at q
        exact here S hx0 q
      · exact q _ _ (S.new hp) (Ext.new S hp) (Rep.newTup S hp (r1.rep _))
    | _ => cases e
  | _ => cases e
end

/-! ### comparisons -/
/-- what a comparison's rule has to do -/
def OpC (X : Cx) (T : Tx) (rr : R2) (f : D → D → Option Bool) : Prop :=
  ∀ {Av : Addr → Prop} {r : List Addr} {m : Sto} {l : Lo} {σ : L2.St} {H : Hp} {x y : D} {b : Bool} {v u : V}, SR T Av r m l σ H → RepB T (wd Av r l σ H) l σ x v → RepB T (wd Av r l σ H) l σ y u → f x y = some b →
    ∀ Q : VK, Q (.bl b) H → rr v u H Q
theorem cmpOk_some {d : D} {p : PyData} (h : D.cmpOk d = some p) : D.py d = some p ∧ SeqAt.shaped p = true := by
  unfold D.cmpOk at h
  cases e : D.py d with
  | none =>
    rw [e] at h
    cases h
  | some q =>
    rw [e] at h
    have h' : (if SeqAt.shaped q = true then some q else none) = some p := h
    obtain ⟨h1, rfl⟩ := ite_some h'
    exact ⟨rfl, h1⟩
theorem beq_dec {α : Type} [DecidableEq α] (a b : α) : (a == b) = decide (a = b) := rfl
section
variable {X : Cx} {T : Tx}
/-- scalars compared, or data of any depth -/
theorem eq_cases {Av : Addr → Prop} {r : List Addr} {m : Sto} {l : Lo} {σ : L2.St} {H : Hp} {x y : D} {b : Bool} {v u : V} (S : SR T Av r m l σ H) (hx : RepB T (wd Av r l σ H) l σ x v) (hy : RepB T (wd Av r l σ H) l σ y u) (e : dEq x y = some b) :
    (scal v u = true ∧ decide (v = u) = b) ∨ ∃ p q, Dp T.K H v p ∧ Dp T.K H u q ∧ SeqAt.shaped p = true ∧ SeqAt.shaped q = true ∧ PyData.eqv p q = b := by
  have deep : ((D.cmpOk x).bind fun p => (D.cmpOk y).map fun q => PyData.eqv p q) = some b → ∃ p q, Dp T.K H v p ∧ Dp T.K H u q ∧ SeqAt.shaped p = true ∧ SeqAt.shaped q = true ∧ PyData.eqv p q = b := by
    intro e
    obtain ⟨p, e1, e2⟩ := Option.bind_eq_some_iff.mp e
    obtain ⟨q, e3, e4⟩ := Option.map_eq_some_iff.mp e2
    obtain ⟨p1, p2⟩ := cmpOk_some e1
    obtain ⟨q1, q2⟩ := cmpOk_some e3
    exact ⟨p, q, RepB.dp S hx p1, RepB.dp S hy q1, p2, q2, e4⟩
  cases x with
  | non =>
    cases hx.non
    cases y with
    | non => cases hy.non; cases e; exact .inl ⟨rfl, by simp⟩
    | bl c => cases hy.bl; cases e; exact .inl ⟨rfl, by simp⟩
    | int c => cases hy.int; cases e; exact .inl ⟨rfl, by simp⟩
    | str c => cases hy.str; cases e; exact .inl ⟨rfl, by simp⟩
    | _ => exact .inr (deep e)
  | bl a =>
    cases hx.bl
    cases y with
    | non => cases hy.non; cases e; exact .inl ⟨rfl, by simp⟩
    | bl c => cases hy.bl; cases e; exact .inl ⟨rfl, by simp [beq_dec]⟩
    | _ => exact .inr (deep e)
  | int a =>
    cases hx.int
    cases y with
    | non => cases hy.non; cases e; exact .inl ⟨rfl, by simp⟩
    | int c => cases hy.int; cases e; exact .inl ⟨rfl, by simp [beq_dec]⟩
    | str c => cases hy.str; cases e; exact .inl ⟨rfl, by simp⟩
    | _ => exact .inr (deep e)
  | str a =>
    cases hx.str
    cases y with
    | non => cases hy.non; cases e; exact .inl ⟨rfl, by simp⟩
    | str c => cases hy.str; cases e; exact .inl ⟨rfl, by simp⟩
    | int c => cases hy.int; cases e; exact .inl ⟨rfl, by simp⟩
    | _ => exact .inr (deep e)
  | _ => exact .inr (deep e)
theorem cmp_eq (hK : X.K = T.K) (hu : X.A.units + 64 < cLine) : ∃ rr, OpR X (compareOp .Eq) rr ∧ OpC X T rr (dCmp .Eq) := by
  refine ⟨_, op_eq.or (op_eqD hu), ?_⟩
  intro Av r m l σ H x y b v u S hx hy e Q q
  rcases eq_cases S hx hy e with ⟨h1, h2⟩ | ⟨p, p', d1, d2, s1, s2, h2⟩
  · exact .inl ⟨h1, by rw [h2]; exact q⟩
  · exact .inr ⟨p, p', by rw [hK]; exact d1, by rw [hK]; exact d2, s1, s2, by rw [h2]; exact q⟩
theorem cmp_ne (hK : X.K = T.K) (hu : X.A.units + 64 < cLine) : ∃ rr, OpR X (compareOp .NotEq) rr ∧ OpC X T rr (dCmp .NotEq) := by
  refine ⟨_, op_ne.or (op_neD hu), ?_⟩
  intro Av r m l σ H x y b v u S hx hy e Q q
  obtain ⟨c, e1, rfl⟩ := Option.map_eq_some_iff.mp (show (dEq x y).map not = some b from e)
  rcases eq_cases S hx hy e1 with ⟨h1, h2⟩ | ⟨p, p', d1, d2, s1, s2, h2⟩
  · exact .inl ⟨h1, by rw [h2]; exact q⟩
  · exact .inr ⟨p, p', by rw [hK]; exact d1, by rw [hK]; exact d2, s1, s2, by rw [h2]; exact q⟩
theorem is_cases {W : Wd} {l : Lo} {σ : L2.St} {x y : D} {b : Bool} {v u : V} (hx : RepB T W l σ x v) (hy : RepB T W l σ y u) (e : dIs x y = some b) : (u = .non ∧ decide (v = .non) = b) ∨ ∃ a c, v = .bl a ∧ u = .bl c ∧ decide (a = c) = b := by
  have nn : ∀ {v : V}, (∃ a, v = .ref a) → decide (v = .non) = false := fun ⟨a, e⟩ => by rw [e]; exact decide_eq_false fun z => nomatch z
  cases y with
  | non =>
    refine .inl ⟨hy.non, ?_⟩
    cases x with
    | non => cases hx.non; cases e; simp
    | bl a => cases hx.bl; cases e; simp
    | int a => cases hx.int; cases e; simp
    | str a => cases hx.str; cases e; simp
    | tup xs => obtain ⟨a, vs, rfl, _⟩ := hx.tup; cases e; exact nn ⟨a, rfl⟩
    | lst xs =>
      cases e
      rcases hx with ⟨a, vs, rfl, _⟩ | ⟨i, ys, a, _, _, _, rfl⟩
      · exact nn ⟨a, rfl⟩
      · exact nn ⟨a, rfl⟩
    | loc n => obtain ⟨a, rfl, _⟩ := hx.rep_of fun _ e => nomatch e; cases e; exact nn ⟨a, rfl⟩
    | obj c xs => obtain ⟨a, _, _, _, rfl, _⟩ := hx.rep_of fun _ e => nomatch e; cases e; exact nn ⟨a, rfl⟩
    | rng lo hi => obtain ⟨a, rfl, _⟩ := hx.rep_of fun _ e => nomatch e; cases e; exact nn ⟨a, rfl⟩
  | bl c =>
    cases x with
    | bl a => cases e; exact .inr ⟨a, c, hx.bl, hy.bl, rfl⟩
    | _ => cases e
  | _ => cases x <;> cases e
theorem cmp_is : ∃ rr, OpR X (compareOp .Is) rr ∧ OpC X T rr (dCmp .Is) := by
  refine ⟨_, op_isN.or op_isBl, ?_⟩
  intro Av r m l σ H x y b v u S hx hy e Q q
  rcases is_cases hx hy e with ⟨h1, h2⟩ | ⟨a, c, h1, h2, h3⟩
  · exact .inl ⟨h1, by rw [h2]; exact q⟩
  · exact .inr ⟨a, c, h1, h2, by rw [h3]; exact q⟩
theorem cmp_isNot : ∃ rr, OpR X (compareOp .IsNot) rr ∧ OpC X T rr (dCmp .IsNot) := by
  refine ⟨_, op_notN.or op_notBl, ?_⟩
  intro Av r m l σ H x y b v u S hx hy e Q q
  obtain ⟨k, e1, rfl⟩ := Option.map_eq_some_iff.mp (show (dIs x y).map not = some b from e)
  rcases is_cases hx hy e1 with ⟨h1, h2⟩ | ⟨a, c, h1, h2, h3⟩
  · exact .inl ⟨h1, by rw [h2]; exact q⟩
  · exact .inr ⟨a, c, h1, h2, by rw [h3]; exact q⟩
theorem cmp_int {op : CmpOp} {g : Int → Int → Bool} (ho : OpR X (compareOp op) (rI0 fun i j => .bl (g i j))) (hd : ∀ x y b, dCmp op x y = some b → ∃ i j, x = .int i ∧ y = .int j ∧ b = g i j) : ∃ rr, OpR X (compareOp op) rr ∧ OpC X T rr (dCmp op) := by
  refine ⟨_, ho, ?_⟩
  intro Av r m l σ H x y b v u S hx hy e Q q
  obtain ⟨i, j, rfl, rfl, rfl⟩ := hd x y b e
  exact ⟨i, j, hx.int, hy.int, q⟩
theorem cmp_lt : ∃ rr, OpR X (compareOp .Lt) rr ∧ OpC X T rr (dCmp .Lt) := cmp_int op_lt fun x y b e => by
  cases x <;> cases y <;> cases e
  exact ⟨_, _, rfl, rfl, rfl⟩
theorem cmp_le : ∃ rr, OpR X (compareOp .LtE) rr ∧ OpC X T rr (dCmp .LtE) := cmp_int op_le fun x y b e => by
  cases x <;> cases y <;> cases e
  exact ⟨_, _, rfl, rfl, rfl⟩
theorem cmp_gt : ∃ rr, OpR X (compareOp .Gt) rr ∧ OpC X T rr (dCmp .Gt) := cmp_int op_gt fun x y b e => by
  cases x <;> cases y <;> cases e
  exact ⟨_, _, rfl, rfl, rfl⟩
theorem cmp_ge : ∃ rr, OpR X (compareOp .GtE) rr ∧ OpC X T rr (dCmp .GtE) := cmp_int op_ge fun x y b e => by
  cases x <;> cases y <;> cases e
  exact ⟨_, _, rfl, rfl, rfl⟩
/-! in -/
def rInT (K : PySem.W.Frag) : R2 := fun x y H Q => ∃ d ds, Dp K H x d ∧ Dp K H y (.tuple ds) ∧ SeqAt.shaped d = true ∧ SeqAt.shaped (.list ds) = true ∧ Q (.bl (ds.any fun z => PyData.eqv z d)) H
def rNotInT (K : PySem.W.Frag) : R2 := fun x y H Q => ∃ d ds, Dp K H x d ∧ Dp K H y (.tuple ds) ∧ SeqAt.shaped d = true ∧ SeqAt.shaped (.list ds) = true ∧ Q (.bl (!ds.any fun z => PyData.eqv z d)) H
theorem room_inT {A : Around} {d : PyData} {xs : List PyData} (h : SeqAt.shaped d = true) (hu : A.units + 65 < cLine) : A.units + 1 + min (PyData.depthAll xs) d.depth < cLine := by
  have h1 := SeqAt.depth_of_shaped h
  have h2 : min (PyData.depthAll xs) d.depth ≤ d.depth := Nat.min_le_right _ _
  omega
theorem op_inT (hu : X.A.units + 65 < cLine) : OpR X (compareOp .In) (rInT X.K) := by
  intro pins s σ H x y v u Q I rx ry h
  obtain ⟨d, ds, hd, he, sd, se, q⟩ := h
  obtain ⟨as, r1⟩ := Dp.reads I d x v hd rx
  obtain ⟨bs, r2⟩ := Dp.reads I (.tuple ds) y u he ry
  exact SeqAt.in_tuple_reads r2 r1 (SeqAt.canLay_of_shaped se) (SeqAt.canLay_of_shaped sd) (room_inT sd hu) ⟨.bl _, H, I, rfl, q⟩
theorem op_notInT (hu : X.A.units + 65 < cLine) : OpR X (compareOp .NotIn) (rNotInT X.K) := by
  intro pins s σ H x y v u Q I rx ry h
  obtain ⟨d, ds, hd, he, sd, se, q⟩ := h
  obtain ⟨as, r1⟩ := Dp.reads I d x v hd rx
  obtain ⟨bs, r2⟩ := Dp.reads I (.tuple ds) y u he ry
  exact SeqAt.notIn_tuple_reads r2 r1 (SeqAt.canLay_of_shaped se) (SeqAt.canLay_of_shaped sd) (room_inT sd hu) ⟨.bl _, H, I, rfl, q⟩
theorem scalV {W : Wd} {d : D} {v : V} (h : Rep T W d v) (s : d.isScal = true) : flatV v = true := by
  cases d with
  | non => cases (show v = .non from h); rfl
  | bl b => cases (show v = .bl b from h); rfl
  | int i => cases (show v = .int i from h); rfl
  | str x => cases (show v = .str x from h); rfl
  | _ => cases s
theorem eqS_V {W : Wd} {d e : D} {v u : V} (h : Rep T W d v) (s : d.isScal = true) (h' : Rep T W e u) (s' : e.isScal = true) : eqV v u = eqS d e := by
  cases d with
  | non =>
    cases (show v = .non from h)
    cases e with
    | non => cases (show u = .non from h'); rfl
    | bl b => cases (show u = .bl b from h'); rfl
    | int i => cases (show u = .int i from h'); rfl
    | str x => cases (show u = .str x from h'); rfl
    | _ => cases s'
  | bl b =>
    cases (show v = .bl b from h)
    cases e with
    | non => cases (show u = .non from h'); rfl
    | bl b => cases (show u = .bl b from h'); rfl
    | int i => cases (show u = .int i from h'); rfl
    | str x => cases (show u = .str x from h'); rfl
    | _ => cases s'
  | int i =>
    cases (show v = .int i from h)
    cases e with
    | non => cases (show u = .non from h'); rfl
    | bl b => cases (show u = .bl b from h'); rfl
    | int i => cases (show u = .int i from h'); rfl
    | str x => cases (show u = .str x from h'); rfl
    | _ => cases s'
  | str x =>
    cases (show v = .str x from h)
    cases e with
    | non => cases (show u = .non from h'); rfl
    | bl b => cases (show u = .bl b from h'); rfl
    | int i => cases (show u = .int i from h'); rfl
    | str x => cases (show u = .str x from h'); rfl
    | _ => cases s'
  | _ => cases s
theorem flat_all {W : Wd} : ∀ {ds : List D} {vs : List V}, Reps T W ds vs → ds.all D.isScal = true → vs.all flatV = true
  | [], _, h, _ => by
    cases (show _ = [] from h)
    rfl
  | d :: ds, _, h, s => by
    obtain ⟨v, r, rfl, h1, h2⟩ := h
    rw [List.all_cons, Bool.and_eq_true] at s
    rw [List.all_cons, Bool.and_eq_true]
    exact ⟨scalV h1 s.1, flat_all h2 s.2⟩
theorem inV_S {W : Wd} {x : D} {v : V} (hx : Rep T W x v) (sx : x.isScal = true) : ∀ {ds : List D} {vs : List V}, Reps T W ds vs → ds.all D.isScal = true → inV v vs = ds.any fun y => eqS y x
  | [], _, h, _ => by
    cases (show _ = [] from h)
    rfl
  | d :: ds, _, h, s => by
    obtain ⟨u, r, rfl, h1, h2⟩ := h
    rw [List.all_cons, Bool.and_eq_true] at s
    have ih := inV_S hx sx h2 s.2
    unfold inV at ih ⊢
    rw [List.any_cons, List.any_cons, eqS_V h1 s.1 hx sx, ih]
/-- the ways of 'in' -/
theorem in_cases {Av : Addr → Prop} {r : List Addr} {m : Sto} {l : Lo} {σ : L2.St} {H : Hp} {x : D} {ys : List D} {b : Bool} {v : V} {vs : List V} (S : SR T Av r m l σ H) (hx : RepB T (wd Av r l σ H) l σ x v) (hy : Reps T (wd Av r l σ H) ys vs) (e : dIn x ys = some b) :
    (flatV v = true ∧ vs.all flatV = true ∧ inV v vs = b) ∨ ∃ p qs, Dp T.K H v p ∧ DpAll T.K H vs qs ∧ SeqAt.shaped p = true ∧ SeqAt.shaped (.list qs) = true ∧ (qs.any fun q => PyData.eqv q p) = b := by
  unfold dIn at e
  by_cases c : (x.isScal && ys.all D.isScal) = true
  · rw [if_pos c] at e
    obtain ⟨c1, c2⟩ := Bool.and_eq_true_iff.mp c
    have hx' : Rep T (wd Av r l σ H) x v := hx.rep_of fun xs e => by rw [e] at c1; cases c1
    exact .inl ⟨scalV hx' c1, flat_all hy c2, by rw [inV_S hx' c1 hy c2]; exact Option.some.inj e⟩
  · rw [if_neg c] at e
    obtain ⟨p, e1, e2⟩ := Option.bind_eq_some_iff.mp e
    obtain ⟨qs, e3, e4⟩ := Option.bind_eq_some_iff.mp e2
    obtain ⟨h1, h2⟩ := ite_some e4
    obtain ⟨p1, p2⟩ := cmpOk_some e1
    exact .inr ⟨p, qs, RepB.dp S hx p1, Reps.dp ys vs qs hy e3, p2, h1, h2⟩
theorem cmp_in (hK : X.K = T.K) (hu : X.A.units + 65 < cLine) : ∃ rr, OpR X (compareOp .In) rr ∧ OpC X T rr (dCmp .In) := by
  refine ⟨_, op_in_seq.or ((op_inD hu).or (op_inT hu)), ?_⟩
  intro Av r m l σ H x y b v u S hx hy e Q q
  cases y with
  | tup ys =>
    obtain ⟨a, vs, rfl, s, ry⟩ := hy.tup
    rcases in_cases S hx ry e with ⟨h1, h2, h3⟩ | ⟨p, qs, d1, d2, s1, s2, h3⟩
    · exact .inl ⟨a, vs, rfl, .inr (by rw [hK]; exact s), h1, h2, by rw [if_neg Bool.false_ne_true, h3]; exact q⟩
    · exact .inr (.inr ⟨p, qs, by rw [hK]; exact d1, by rw [hK]; exact .tup s d2, s1, s2, by rw [h3]; exact q⟩)
  | lst ys =>
    obtain ⟨a, vs, rfl, s, ry⟩ := hy.lst S
    rcases in_cases S hx ry e with ⟨h1, h2, h3⟩ | ⟨p, qs, d1, d2, s1, s2, h3⟩
    · exact .inl ⟨a, vs, rfl, .inl (.inl s), h1, h2, by rw [if_neg Bool.false_ne_true, h3]; exact q⟩
    · exact .inr (.inl ⟨p, qs, by rw [hK]; exact d1, by rw [hK]; exact .lst (.inl s) d2, s1, s2, by rw [h3]; exact q⟩)
  | _ => cases e
theorem cmp_notIn (hK : X.K = T.K) (hu : X.A.units + 65 < cLine) : ∃ rr, OpR X (compareOp .NotIn) rr ∧ OpC X T rr (dCmp .NotIn) := by
  refine ⟨_, op_notIn_seq.or ((op_notInD hu).or (op_notInT hu)), ?_⟩
  intro Av r m l σ H x y b v u S hx hy e Q q
  cases y with
  | tup ys =>
    obtain ⟨k, e1, rfl⟩ := Option.map_eq_some_iff.mp (show (dIn x ys).map not = some b from e)
    obtain ⟨a, vs, rfl, s, ry⟩ := hy.tup
    rcases in_cases S hx ry e1 with ⟨h1, h2, h3⟩ | ⟨p, qs, d1, d2, s1, s2, h3⟩
    · exact .inl ⟨a, vs, rfl, .inr (by rw [hK]; exact s), h1, h2, by rw [if_pos rfl, h3]; exact q⟩
    · exact .inr (.inr ⟨p, qs, by rw [hK]; exact d1, by rw [hK]; exact .tup s d2, s1, s2, by rw [h3]; exact q⟩)
  | lst ys =>
    obtain ⟨k, e1, rfl⟩ := Option.map_eq_some_iff.mp (show (dIn x ys).map not = some b from e)
    obtain ⟨a, vs, rfl, s, ry⟩ := hy.lst S
    rcases in_cases S hx ry e1 with ⟨h1, h2, h3⟩ | ⟨p, qs, d1, d2, s1, s2, h3⟩
    · exact .inl ⟨a, vs, rfl, .inl (.inl s), h1, h2, by rw [if_pos rfl, h3]; exact q⟩
    · exact .inr (.inl ⟨p, qs, by rw [hK]; exact d1, by rw [hK]; exact .lst (.inl s) d2, s1, s2, by rw [h3]; exact q⟩)
  | _ => cases e
theorem bin_any (hK : X.K = T.K) (op : Operator) (h : (match op with
    | .MatMult => false
    | .Div => false
    | .LShift => false
    | .RShift => false
    | _ => true) = true) : ∃ rr, OpR X (binaryOp op) rr ∧ OpD X T rr (dBin op) := by
  cases op with
  | Add => exact bin_add hK
  | Sub => exact bin_sub
  | Mult => exact bin_mult hK
  | Mod => exact bin_mod
  | Pow => exact bin_pow
  | BitOr => exact bin_or
  | BitXor => exact bin_xor
  | BitAnd => exact bin_and
  | FloorDiv => exact bin_fdiv
  | MatMult => cases h
  | Div => cases h
  | LShift => cases h
  | RShift => cases h
theorem cmp_any (hK : X.K = T.K) (hu : X.A.units + 65 < cLine) (op : CmpOp) : ∃ rr, OpR X (compareOp op) rr ∧ OpC X T rr (dCmp op) := by
  cases op with
  | Eq => exact cmp_eq hK (by omega)
  | NotEq => exact cmp_ne hK (by omega)
  | Lt => exact cmp_lt
  | LtE => exact cmp_le
  | Gt => exact cmp_gt
  | GtE => exact cmp_ge
  | Is => exact cmp_is
  | IsNot => exact cmp_isNot
  | In => exact cmp_in hK hu
  | NotIn => exact cmp_notIn hK hu
end
end Ev

set_option Elab.async false
set_option linter.all false
set_option maxRecDepth 100000
set_option maxHeartbeats 2000000
/-! Ev4: slots stored, targets, what a call sees of a state. -/
namespace Ev
open PySem PySem.Spec PyProof.Rows L2

/-- the same places: what is no one's in the one is no one's in the other -/
structure Same2 (W W' : Wd) : Prop where
  H : ∀ x, ¬ W.A x → W'.H x = W.H x
  r : W'.r = W.r
  a : ∀ x, ¬ W.A x → ¬ W'.A x
  m : ∀ x, ¬ W.A x → ¬ W'.M x
section
variable {T : Tx} {W W' : Wd}
theorem Rd.same (x : Same2 W W') {a : Addr} {u : HO} (h : Rd W.H a u) (n : ¬ W.A a) : Rd W'.H a u := by
  rcases h with h | ⟨o, h⟩
  · exact .inl (by rw [x.H a n]; exact h)
  · exact .inr ⟨o, by rw [x.H a n]; exact h⟩
mutual
theorem Rep.same (x : Same2 W W') : ∀ (d : D) (v : V), Rep T W d v → Rep T W' d v
  | .non, _, h => h
  | .bl _, _, h => h
  | .int _, _, h => h
  | .str _, _, h => h
  | .tup xs, _, ⟨a, vs, e, h, q⟩ => ⟨a, vs, e, h.imp (fun ⟨h1, h2, h3⟩ => ⟨Rd.same x h1 h3, x.m a h3, x.a a h3⟩) id, Reps.same x xs vs q⟩
  | .lst xs, _, ⟨a, vs, e, h1, h2, h3, q⟩ => ⟨a, vs, e, Rd.same x h1 h3, x.m a h3, x.a a h3, Reps.same x xs vs q⟩
  | .loc n, _, ⟨a, e, h⟩ => ⟨a, e, by rw [x.r]; exact h⟩
  | .obj c xs, _, ⟨a, dx, vs, ns, e, h0, h1, h2, h3, h4, q⟩ => ⟨a, dx, vs, ns, e, h0, by rw [x.H a h3]; exact h1, x.m a h3, x.a a h3, h4, Reps.same x xs vs q⟩
  | .rng lo hi, _, ⟨a, e, h1, h2, h3⟩ => ⟨a, e, by rw [x.H a h3]; exact h1, x.m a h3, x.a a h3⟩
theorem Reps.same (x : Same2 W W') : ∀ (ds : List D) (vs : List V), Reps T W ds vs → Reps T W' ds vs
  | [], _, h => h
  | d :: ds, _, ⟨v, q, e, h1, h2⟩ => ⟨v, q, e, Rep.same x d v h1, Reps.same x ds q h2⟩
end
end

section
variable {T : Tx} {Av : Addr → Prop} {r : List Addr} {m : Sto} {l l' : Lo} {σ σ' : L2.St} {H : Hp}
/-- other slots whose own lists are among the former's -/
theorem Same2.slots (ho : ∀ a, OwnAt l' σ' a → OwnAt l σ a) : Same2 (wd Av r l σ H) (wd Av r l' σ' H) :=
  ⟨fun _ _ => rfl, rfl, fun x h z => h (z.imp id fun z => z.imp id (ho x)), fun x h z => h (.inr (z.imp id (ho x)))⟩
theorem Ext.slots (ho : ∀ a, OwnAt l' σ' a → OwnAt l σ a) : Ext (wd Av r l σ H) (wd Av r l' σ' H) :=
  ⟨fun a o h _ => h, fun a o _ h z => h (z.imp id (ho a)), fun a o _ h z => h (z.imp id fun z => z.imp id (ho a)), fun n a h => h, fun a o h => ⟨o, h⟩⟩
/-- a state with other slots -/
theorem SR.reslot (S : SR T Av r m l σ H) (hl : l'.length = σ'.length) (ho : ∀ a, OwnAt l' σ' a → OwnAt l σ a)
    (hs : ∀ (i : Nat) s o, l'[i]? = some s → σ'[i]? = some o → (l[i]? = some s ∧ σ[i]? = some o) ∨ s = .no ∨ ∃ d v, s = .val d ∧ o = some v ∧ Rep T (wd Av r l σ H) d v)
    (hi : ∀ (i j : Nat) xs ys a, l'[i]? = some (.own xs) → l'[j]? = some (.own ys) → σ'[i]? = some (some (.ref a)) → σ'[j]? = some (some (.ref a)) → i = j) : SR T Av r m l' σ' H := by
  have x : Same2 (wd Av r l σ H) (wd Av r l' σ' H) := Same2.slots ho
  refine ⟨hl, S.alv, S.mlen, S.nd, S.rAv, fun n xs a e1 e2 => ?_, fun i s o e1 e2 => ?_, hi⟩
  · obtain ⟨vs, h1, h2⟩ := S.mem n xs a e1 e2
    exact ⟨vs, h1, Reps.same x xs vs h2⟩
  · rcases hs i s o e1 e2 with ⟨e3, e4⟩ | rfl | ⟨d, v, rfl, rfl, h⟩
    · have h := S.slot i s o e3 e4
      cases s with
      | no => trivial
      | val d =>
        obtain ⟨v, e, h⟩ := h
        exact ⟨v, e, Rep.same x d v h⟩
      | own xs =>
        obtain ⟨a, vs, e, h1, h2, h3, h4⟩ := h
        exact ⟨a, vs, e, h1, Reps.same x xs vs h2, h3, h4⟩
    · trivial
    · exact ⟨v, rfl, Rep.same x d v h⟩
theorem getSet {α : Type} {xs : List α} {i j : Nat} {a b : α} (h : (xs.set i a)[j]? = some b) : (j = i ∧ b = a ∧ i < xs.length) ∨ (j ≠ i ∧ xs[j]? = some b) := by
  by_cases e : i = j
  · subst e
    by_cases hl : i < xs.length
    · rw [List.getElem?_set_self hl] at h
      exact .inl ⟨rfl, (Option.some.inj h).symm, hl⟩
    · rw [List.getElem?_eq_none (by rw [List.length_set]; omega)] at h
      cases h
  · rw [List.getElem?_set_ne e] at h
    exact .inr ⟨fun z => e z.symm, h⟩
theorem ownAt_set {i : Nat} {s : Sl} {o : Option V} (hs : ∀ xs, s ≠ .own xs) (a : Addr) (h : OwnAt (l.set i s) (σ.set i o) a) : OwnAt l σ a := by
  obtain ⟨j, xs, e1, e2⟩ := h
  rcases getSet e1 with ⟨_, e, _⟩ | ⟨ne, e1⟩
  · exact absurd e.symm (hs xs)
  · rcases getSet e2 with ⟨e, _⟩ | ⟨_, e2⟩
    · exact absurd e ne
    · exact ⟨j, xs, e1, e2⟩
theorem own_inj_set (S : SR T Av r m l σ H) {i : Nat} {s : Sl} {o : Option V} (hs : ∀ xs, s ≠ .own xs) (j k : Nat) (xs ys : List D) (a : Addr) (h1 : (l.set i s)[j]? = some (.own xs)) (h2 : (l.set i s)[k]? = some (.own ys))
    (h3 : (σ.set i o)[j]? = some (some (.ref a))) (h4 : (σ.set i o)[k]? = some (some (.ref a))) : j = k := by
  rcases getSet h1 with ⟨_, e, _⟩ | ⟨n1, e1⟩
  · exact absurd e.symm (hs xs)
  rcases getSet h2 with ⟨_, e, _⟩ | ⟨n2, e2⟩
  · exact absurd e.symm (hs ys)
  rcases getSet h3 with ⟨e, _⟩ | ⟨_, e3⟩
  · exact absurd e n1
  rcases getSet h4 with ⟨e, _⟩ | ⟨_, e4⟩
  · exact absurd e n2
  exact S.inj j k xs ys a e1 e2 e3 e4
/-- a value is stored -/
theorem SR.setVal (S : SR T Av r m l σ H) {i : Nat} {d : D} {v : V} (h : Rep T (wd Av r l σ H) d v) : SR T Av r m (l.set i (.val d)) (σ.set i (some v)) H := by
  refine S.reslot (by rw [List.length_set, List.length_set]; exact S.len) (ownAt_set fun xs e => nomatch e) (fun j s o e1 e2 => ?_) (own_inj_set S fun xs e => nomatch e)
  rcases getSet e1 with ⟨e, e3, _⟩ | ⟨n1, e3⟩
  · rcases getSet e2 with ⟨_, e4, _⟩ | ⟨n2, e4⟩
    · exact .inr (.inr ⟨d, v, e3, e4, h⟩)
    · exact absurd e n2
  · rcases getSet e2 with ⟨e, _⟩ | ⟨_, e4⟩
    · exact absurd e n1
    · exact .inl ⟨e3, e4⟩
theorem Ext.setVal {i : Nat} {d : D} {v : V} : Ext (wd Av r l σ H) (wd Av r (l.set i (.val d)) (σ.set i (some v)) H) := Ext.slots (ownAt_set fun xs e => nomatch e)
end

/-! ### targets -/
mutual
def Tg.slots : Tg → List Nat
  | .name i => [i]
  | .tup ts => Tg.slotsAll ts
def Tg.slotsAll : List Tg → List Nat
  | [] => []
  | t :: ts => Tg.slots t ++ Tg.slotsAll ts
end
/-- what is left behind a store -/
structure Put (T : Tx) (Av : Addr → Prop) (r : List Addr) (m : Sto) (l : Lo) (σ : L2.St) (H : Hp) (is : List Nat) (l' : Lo) (σ' : L2.St) : Prop where
  sr : SR T Av r m l' σ' H
  ext : Ext (wd Av r l σ H) (wd Av r l' σ' H)
  same : Same2 (wd Av r l σ H) (wd Av r l' σ' H)
  len : σ'.length = σ.length
  keep : ∀ j, j ∉ is → σ'[j]? = σ[j]?
theorem Same2.trans {W W1 W2 : Wd} (x : Same2 W W1) (y : Same2 W1 W2) : Same2 W W2 := ⟨fun z h => (y.H z (x.a z h)).trans (x.H z h), y.r.trans x.r, fun z h => y.a z (x.a z h), fun z h => y.m z (x.a z h)⟩
theorem Same2.refl (Av : Addr → Prop) (r : List Addr) (l : Lo) (σ : L2.St) (H : Hp) : Same2 (wd Av r l σ H) (wd Av r l σ H) := ⟨fun _ _ => rfl, rfl, fun _ h => h, fun _ h z => h (.inr z)⟩
section
variable (T : Tx)
def tG (tg : Tg) : TG := fun v σ H Q => ∃ (Av : Addr → Prop) (r : List Addr) (m : Sto) (l : Lo) (d : D) (l' : Lo), SR T Av r m l σ H ∧ Rep T (wd Av r l σ H) d v ∧ tg.set d l = some l' ∧
  ∀ σ', Put T Av r m l σ H tg.slots l' σ' → Q σ' H
def tGs (tgs : List Tg) : TGs := fun vs σ H Q => ∃ (Av : Addr → Prop) (r : List Addr) (m : Sto) (l : Lo) (ds : List D) (l' : Lo), SR T Av r m l σ H ∧ Reps T (wd Av r l σ H) ds vs ∧ Tg.setAll tgs ds l = some l' ∧
  ∀ σ', Put T Av r m l σ H (Tg.slotsAll tgs) l' σ' → Q σ' H
end
theorem PG.imp {X : Cx} {e : Expr} {t t' : TG} (h : PG X e t) (i : ∀ v σ H Q, t' v σ H Q → t v σ H Q) : PG X e t' := ⟨fun pins s σ H v u Q I r hq => h.run pins s σ H v u Q I r (i v σ H Q hq)⟩
theorem PGs.imp {X : Cx} {e : List Expr} {t t' : TGs} (h : PGs X e t) (i : ∀ v σ H Q, t' v σ H Q → t v σ H Q) : PGs X e t' := ⟨fun pins s σ H v u Q I r hq => h.run pins s σ H v u Q I r (i v σ H Q hq)⟩
section
variable {X : Cx} {T : Tx}
theorem pg_nameE {i : Nat} {x : Str} {pos : Pos} (hN : X.N.Nodup) (hi : X.N[i]? = some x) (hx : Loc X.env.scope x) (hf : X.fn x = true ∨ X.env.scope.names.lookup x = some .local) : PG X (.Name x pos) (tG T (.name i)) := by
  refine PG.imp (pg_name (i := i) hN hi hx hf) fun v σ H Q h => ?_
  obtain ⟨Av, r, m, l, d, l', S, h1, e, q⟩ := h
  cases (show some (l.set i (.val d)) = some l' from e)
  refine q _ ⟨S.setVal h1, Ext.setVal, Same2.slots (ownAt_set fun xs e => nomatch e), List.length_set .., fun j hj => ?_⟩
  exact List.getElem?_set_ne fun e => hj (by rw [← e]; exact List.mem_singleton.mpr rfl)
theorem pgs_nilE : PGs X [] (tGs T []) := by
  refine PGs.imp pgs_nil fun v σ H Q h => ?_
  obtain ⟨Av, r, m, l, ds, l', S, h1, e, q⟩ := h
  cases ds with
  | cons d ds => cases e
  | nil =>
    cases (show some l = some l' from e)
    exact ⟨h1, q σ ⟨S, Ext.refl _, Same2.refl .., rfl, fun _ _ => rfl⟩⟩
theorem pgs_consE {e : Expr} {es : List Expr} {t : Tg} {ts : List Tg} (h1 : PG X e (tG T t)) (h2 : PGs X es (tGs T ts)) (hs : (assignEach (e :: es) X.env).map (·.2) = assign e X.env :: (assignEach es X.env).map (·.2)) : PGs X (e :: es) (tGs T (t :: ts)) := by
  refine PGs.imp (pgs_cons h1 h2 hs) fun vs σ H Q h => ?_
  obtain ⟨Av, r, m, l, ds, l', S, hr, e, q⟩ := h
  cases ds with
  | nil => cases e
  | cons d ds =>
    obtain ⟨v, vr, rfl, hd, ht⟩ := hr
    obtain ⟨l1, e1, e2⟩ := Option.bind_eq_some_iff.mp (show ((Tg.set t d l).bind fun l' => Tg.setAll ts ds l') = some l' from e)
    refine ⟨v, vr, rfl, Av, r, m, l, d, l1, S, hd, e1, fun σ1 p1 => ?_⟩
    refine ⟨Av, r, m, l1, ds, l', p1.sr, Reps.same p1.same ds vr ht, e2, fun σ2 p2 => q σ2 ⟨p2.sr, p1.ext.trans p2.ext, p1.same.trans p2.same, p2.len.trans p1.len, fun j hj => ?_⟩⟩
    have hj' : j ∉ Tg.slots t ++ Tg.slotsAll ts := hj
    rw [List.mem_append, not_or] at hj'
    exact (p2.keep j hj'.2).trans (p1.keep j hj'.1)
theorem Tg.setAll_len : ∀ {ts : List Tg} {ds : List D} {l l' : Lo}, Tg.setAll ts ds l = some l' → ds.length = ts.length
  | [], [], _, _, _ => rfl
  | [], _ :: _, _, _, e => by cases e
  | _ :: _, [], _, _, e => by cases e
  | t :: ts, d :: ds, l, l', e => by
    obtain ⟨l1, _, e2⟩ := Option.bind_eq_some_iff.mp (show ((Tg.set t d l).bind fun l' => Tg.setAll ts ds l') = some l' from e)
    rw [List.length_cons, List.length_cons, Tg.setAll_len e2]
theorem pg_tupE {es : List Expr} {k : Nat} {ts : List Tg} {pos : Pos} (hK : X.K = T.K) (hc : X.calm = true) (h : PGs X es (tGs T ts)) (hl : es.length = ts.length) (hn : (assignEach es X.env).length = es.length) (hst : (assignEach es X.env).findIdx? (·.1) = none) : PG X (.Tuple es k pos) (tG T (.tup ts)) := by
  refine PG.imp (pg_tup hc h hn hst) fun v σ H Q q => ?_
  obtain ⟨Av, r, m, l, d, l', S, hr, e, q⟩ := q
  cases d with
  | tup xs =>
    have e' : Tg.setAll ts xs l = some l' := e
    obtain ⟨a, vs, rfl, s, hr⟩ := hr.tup
    refine ⟨a, vs, rfl, by rw [hK]; exact s, ?_, Av, r, m, l, xs, l', S, hr, e', q⟩
    rw [← hr.length, Tg.setAll_len e', hl]
  | _ => cases e
end

/-! ### what a call sees -/
def AvC (Av : Addr → Prop) (l : Lo) (σ : L2.St) : Addr → Prop := fun a => Av a ∨ OwnAt l σ a
section
variable {T : Tx} {Av : Addr → Prop} {r r' : List Addr} {m m' : Sto} {l : Lo} {σ : L2.St} {H H' : Hp}
theorem no_own {a : Addr} (h : OwnAt [] [] a) : False := by
  obtain ⟨i, xs, e, _⟩ := h
  simp at e
theorem AvC.down : Same2 (wd Av r l σ H) (wd (AvC Av l σ) r [] [] H) :=
  ⟨fun _ _ => rfl, rfl, fun x h z => h (z.elim (fun z => z.elim .inl fun z => .inr (.inr z)) fun z => z.elim (fun z => .inr (.inl z)) fun z => (no_own z).elim), fun x h z => h (z.elim (fun z => .inr (.inl z)) fun z => (no_own z).elim)⟩
theorem AvC.up : Same2 (wd (AvC Av l σ) r [] [] H) (wd Av r l σ H) :=
  ⟨fun _ _ => rfl, rfl, fun x h z => h (z.elim (fun z => .inl (.inl z)) fun z => z.elim (fun z => .inr (.inl z)) fun z => .inl (.inr z)), fun x h z => h (z.elim (fun z => .inr (.inl z)) fun z => .inl (.inr z))⟩
theorem SR.down (S : SR T Av r m l σ H) : SR T (AvC Av l σ) r m [] [] H := by
  refine ⟨rfl, fun a ha => ?_, S.mlen, S.nd, fun a ha z => ?_, fun n xs a e1 e2 => ?_, fun i s o e => by simp at e, fun i j xs ys a e => by simp at e⟩
  · rcases ha with ha | ha
    · exact S.alv a ha
    · exact S.mutAlive (.inr ha)
  · rcases z with z | ⟨i, xs, e, es⟩
    · exact S.rAv a ha z
    · obtain ⟨b, vs, e1, _, _, _, nr⟩ := S.own_at e
      rw [es] at e1
      cases e1
      exact nr ha
  · obtain ⟨vs, h1, h2⟩ := S.mem n xs a e1 e2
    exact ⟨vs, h1, Reps.same AvC.down xs vs h2⟩
theorem Ext.up (x : Ext (wd (AvC Av l σ) r [] [] H) (wd (AvC Av l σ) r' [] [] H')) : Ext (wd Av r l σ H) (wd Av r' l σ H') := by
  refine ⟨fun a o h n => x.keep a o h fun z => n (z.elim .inl fun z => (no_own z).elim), fun a o h n z => ?_, fun a o h n z => ?_, x.pre, x.live⟩
  · rcases z with z | z
    · exact x.mu a o h (fun z => n (z.elim .inl fun z => (no_own z).elim)) (.inl z)
    · exact n (.inr z)
  · refine x.av a o h (fun z => n (z.elim (fun z => z.elim .inl fun z => .inr (.inr z)) fun z => z.elim (fun z => .inr (.inl z)) fun z => (no_own z).elim)) ?_
    exact z.elim (fun z => .inl (.inl z)) fun z => z.elim (fun z => .inr (.inl z)) fun z => .inl (.inr z)
/-- behind the call: the frame's slots again -/
theorem SR.up (S : SR T Av r m l σ H) (S' : SR T (AvC Av l σ) r' m' [] [] H') (x : Ext (wd (AvC Av l σ) r [] [] H) (wd (AvC Av l σ) r' [] [] H')) : SR T Av r' m' l σ H' := by
  have x2 := Ext.up x
  refine ⟨S.len, fun a ha => S'.alv a (.inl ha), S'.mlen, S'.nd, fun a ha z => S'.rAv a ha (.inl z), fun n xs a e1 e2 => ?_, fun i s o e1 e2 => ?_, S.inj⟩
  · obtain ⟨vs, h1, h2⟩ := S'.mem n xs a e1 e2
    exact ⟨vs, h1, Reps.same AvC.up xs vs h2⟩
  · refine SlotOk.ext x2 (fun a h ⟨o, ho⟩ => ?_) (fun xs a vs es ea nr h => ?_) (S.slot i s o e1 e2)
    · exact fun z => x.mu a o ho (fun z => z.elim h fun z => (no_own z).elim) (.inl z)
    · exact x.keep a _ h fun z => z.elim nr fun z => (no_own z).elim
end
end Ev

set_option Elab.async false
set_option linter.all false
set_option maxRecDepth 100000
set_option maxHeartbeats 2000000
/-! Ev5: what loops walk. -/
namespace Ev
open PySem PySem.Spec PyProof.Rows L2

/-! ### enumerate of a tuple -/
section
open AutoSeq1 (wpAny_loadPart')
theorem meets_enumerate_newT (l : Addr) (items : Array Value) (n : Nat) (dct : Option Addr) (sl : Array (Option Value)) :
    Meets (Builtin.«enumerate.__new__» ⟨[.type "enumerate", .ref l], []⟩) (fun _ R s => s.heap.get? l = some { cls := .type "tuple", dict := dct, data := .seq items n, slots := sl } ∧
      R (.ok (.ret (.ref (s.heap.push { cls := .type "tuple_iterator", data := .fields #[.ref l, .int 0 0] }).objs.size)))
        { s with heap := (s.heap.push { cls := .type "tuple_iterator", data := .fields #[.ref l, .int 0 0] }).push { cls := .type "enumerate", data := .fields #[.none, .bool false, .ref s.heap.objs.size, rawInt 0, .none, .none] } }) :=
  .of_wp fun prog w A R s h => by
    obtain ⟨hp, g, d, tk, os⟩ := s; obtain ⟨hl, h⟩ := h
    have hsub := sub_enumerate
    have hL : Heap.IsTuple (Shared.heap ⟨hp, g, d, tk, os⟩) l items := ⟨_, hl, rfl, n, rfl⟩
    wp_walk using wpAny_loadPart' hl
    refine wpAny_stack_any fun st => wpAny_pure ?_
    split
    · rename_i c _ _ _ _ _
      cases (c == Value.type "enumerate")
      · wp_walk using wpAny_loadPart' hl, wpAny_pyIter_tuple hL
        exact ⟨_, rfl, h⟩
      · wp_walk using wpAny_loadPart' hl, wpAny_pyIter_tuple hL
        exact ⟨_, rfl, h⟩
    · wp_walk using wpAny_loadPart' hl, wpAny_pyIter_tuple hL
      exact ⟨_, rfl, h⟩
end
section
variable {prog : Program} {w : World} {A : Around} {E : Value → Shared → Prop} {s : Shared}
theorem call_enumerate_tuple {l : Addr} {items : Array Value} {Q : Value → Shared → Prop} (hL : s.heap.IsTuple l items)
    (h : ∀ h', IsEnum h' (s.heap.objs.size + 1) s.heap.objs.size 0 .none → h'.IsTupleIter s.heap.objs.size l 0 → h'.objs.size = s.heap.objs.size + 2 →
      (∀ b o, s.heap.get? b = some o → h'.get? b = some o) → Q (.ref (s.heap.objs.size + 1)) { s with heap := h' }) :
    wpAny (model prog w) A (call (.type "enumerate") [.ref l]) Q E s := by
  obtain ⟨⟨c, dct, dt, sl⟩, hl, hc, n, hd⟩ := hL
  replace hc : c = .type "tuple" := hc
  replace hd : dt = .seq items n := hd
  subst hc hd
  refine callType_new F.called_enumerate (by decide) (F.typeCall_enumerate_1 _) (F.newCall_enumerate_1 _) (fun obj => F.args_object_init_2 obj _) F.entry_enumerate_new
    (meets_enumerate_newT l items n dct sl) ⟨hl, ?_⟩
  have hz : (s.heap.push { cls := .type "tuple_iterator", data := .fields #[.ref l, .int 0 0] }).objs.size = s.heap.objs.size + 1 := Heap.size_push ..
  show _ ∧ _
  rw [hz]
  have he : IsEnum ((s.heap.push { cls := .type "tuple_iterator", data := .fields #[.ref l, .int 0 0] }).push
      { cls := .type "enumerate", data := .fields #[.none, .bool false, .ref s.heap.objs.size, rawInt 0, .none, .none] }) (s.heap.objs.size + 1) s.heap.objs.size 0 .none := by
    have := Heap.get?_push_size (s.heap.push { cls := .type "tuple_iterator", data := .fields #[.ref l, .int 0 0] })
      (o := { cls := .type "enumerate", data := .fields #[.none, .bool false, .ref s.heap.objs.size, rawInt 0, .none, .none] }) rfl
    rw [hz] at this; exact this
  refine ⟨⟨_, he, rfl⟩, h _ he ⟨_, Heap.get?_push_of_some _ (Heap.get?_push_size _ rfl), rfl, rfl⟩ (by rw [Heap.size_push, hz]) fun b o x => Heap.get?_push_of_some _ (Heap.get?_push_of_some _ x)⟩
end
/-- the tuple at a, each item in a new pair -/
def IteT (K : PySem.W.Frag) (a : Addr) : It :=
  ⟨fun i H => ∃ (xs : List V) (x : V), SqT K H a xs ∧ xs[i]? = some x, fun i H v H' => ∃ T x, v = .ref T ∧ H T = none ∧ H' = upd H T (.tup [.int (i : Nat), x]) ∧ ∀ xs, SqT K H a xs → xs[i]? = some x, fun i H => ∃ xs : List V, SqT K H a xs ∧ xs.length ≤ i⟩

theorem turn_enumT {P : Program} {w : World} {K : PySem.W.Frag} {elts : List Expr} {kk : Nat} {tpos : Pos} (a e it : Addr) (hai : a ≠ it) (hae : a ≠ e) :
    Turn P w K (.Tuple elts kk tpos) (IteT K a) [e, it] e (fun i h => (∃ old, IsEnum h e it ((i : Nat) : Int) old) ∧ h.IsTupleIter it a i ∧ e ≠ it) where
  mem := by simp
  obj := fun i h st b hb => by
    obtain ⟨⟨old, he⟩, ⟨o, ho, hc, hd⟩, _⟩ := st
    have e' : b = e ∨ b = it := by simpa using hb
    rcases e' with z | z
    · rw [z]; exact ⟨_, he, fun v q => nomatch q⟩
    · rw [z]; exact ⟨o, ho, fun v q => by rw [hd] at q; cases q⟩
  keep := fun i h h' st k => let ⟨⟨old, he⟩, hi, hne⟩ := st; ⟨⟨old, k e (by simp) _ he⟩, hi.at fun o q => k it (by simp) o q, hne⟩
  item := by
    intro X hP hw hK hc i pins s σ H E I hf st hg
    subst hP hw hK
    obtain ⟨⟨old, he⟩, hit, hne⟩ := st
    obtain ⟨xs, x, hq, hx⟩ := hg
    obtain ⟨its, rv, p, hz⟩ := I.tuple hq
    obtain ⟨u, hu, ru⟩ := rv.get hx
    have hel : e < s.heap.objs.size := Heap.lt_size he
    have hil : it < s.heap.objs.size := by obtain ⟨_, q, _⟩ := hit; exact Heap.lt_size q
    have hsz0 : i < its.toArray.size := by
      have := (List.getElem?_eq_some_iff.mp hu).1
      rw [List.size_toArray]
      exact this
    have D := Draws.tuple (prog := X.prog) (w := X.w) (A := X.A.in1) (I.ok.hd hc) it a hai its.toArray
    refine wpAny_pyNext_enum_itemD D he ⟨hit, p⟩ hsz0 hne (by
      intro z
      have e' : e = it ∨ e = a := by simpa using z
      rcases e' with z | z
      · exact hne z
      · exact hae z.symm) fun y h' tk hy ho hit' hT hsz hk => ?_
    have ey : y = u := by
      rw [List.getElem?_toArray, hu] at hy
      exact (Option.some.inj hy).symm
    subst ey
    refine ⟨_, rfl, wpAny_letOwnedTupleGo_enum (s := { s with heap := h', toks := tk + 1 }) ho fun h'' he' sb => ?_⟩
    have hT2 : h''.get? s.heap.objs.size = some { cls := .type "tuple", data := .seq #[.int i tk, y] } := (sb.2 _ (Nat.ne_of_gt hel)).trans hT
    have new : ObjOk X.prog X.w (upd H s.heap.objs.size (.tup [.int (i : Nat), x])) h'' s.heap.objs.size (.tup [.int (i : Nat), x]) :=
      ⟨by show 2 ≤ sizeLine; decide, [.int i tk, y], .cons ⟨_, rfl⟩ (.cons ru .nil), ⟨_, hT2, rfl, _, rfl⟩⟩
    have I1 : Inv X pins σ (upd H s.heap.objs.size (.tup [.int (i : Nat), x])) { s with heap := h'', toks := tk + 1 } :=
      I.turnedNew (ch := [e, it]) (fun b ob hb q => (sb.2 b (fun z => hb (by simp [z]))).trans (hk b ob (fun z => hb (by simp [z])) (fun z => hb (by simp [z])) q)) hf (Nat.le_refl _) new
    refine ⟨.ref s.heap.objs.size, _, I1, rfl, ⟨_, x, rfl, I.hok.fresh (Nat.le_refl _), rfl, fun ys hy => by rw [I.tuple_inj hy hq]; exact hx⟩, ⟨⟨y, ?_⟩, hit'.1.at fun o q => (sb.2 it (Ne.symm hne)).trans q, hne⟩, fun b hb => ?_⟩
    · have e1 : ((i + 1 : Nat) : Int) = (i : Int) + 1 := by omega
      rw [e1]; exact he'
    · have hb' : b < s.heap.objs.size := by
        have e' : b = e ∨ b = it := by simpa using hb
        rcases e' with z | z
        · rw [z]; exact hel
        · rw [z]; exact hil
      rw [upd_ne (Nat.ne_of_lt hb')]
      exact (hf b hb).1
  done := by
    intro X hP hw hK hc i pins s σ H E I hf st hg
    subst hP hw hK
    obtain ⟨⟨old, he⟩, hit, hne⟩ := st
    obtain ⟨xs, hq, hx⟩ := hg
    obtain ⟨its, rv, p, hz⟩ := I.tuple hq
    obtain ⟨f0, f1, f2, f3, f4, f5⟩ := hf it (by simp)
    have hl := rv.length
    have hT : s.TypeIs (.ref e) "enumerate" := ⟨_, he, rfl⟩
    unfold pyNext
    refine wpAny_bind (wpAny_attempt (wpAny_callSpecial?_slot (name := Str.ofString "__next__") hT F.slot_enumerate_next
      (wpAny_call_entry F.slot_enumerate_next hT F.entry_enumerate_next ?_ (F.args_enumerate_next_1 _))))
    show wpAny _ _ (field (.ref e) 2 >>= _) _ _ _
    refine wpAny_bind (wpAny_field he rfl (x := .ref it) rfl ?_)
    refine wpAny_bind (wpAny_nextOf_tuple_end (I.ok.hd hc) hit p (by simp; omega) fun h' z he' hx' => ?_)
    obtain ⟨o, ho, hc'⟩ := hx'
    refine wpAny_bind (wpAny_isInstance (T := "StopIteration") (b := true) ⟨o, ho, hc'⟩ isSubtype_stop ?_)
    exact wpAny_pure ⟨rfl, I.turned (t' := s.toks) (fun b o hb q => he' b o hb q) f0 f1 f3 f4 f5⟩
  self := fun A i s Q E st h => let ⟨⟨_, he⟩, _⟩ := st; wpAny_pyIter_enum he h
def iEnumA (K : PySem.W.Frag) (ta : TA) : TI := fun σ H R => ta σ H fun vs H1 => ∃ a xs, vs = [.ref a] ∧ ((SqL K H1 a xs ∧ R (Ite K a) H1) ∨ (SqT K H1 a xs ∧ R (IteT K a) H1))
theorem pi_enumA {X : Cx} {e : Expr} {ta : TA} {p pos tpos : Pos} {elts : List Expr} {kk : Nat} (hg : Gl X "enumerate") (hm : X.mg "enumerate" = none) (ha : PA X [e] ta) (hs : starEach [e] X.env = [(false, eval e X.env)]) :
    PI X (.Tuple elts kk tpos) (.Call (.Name "enumerate" p) [e] [] pos) (iEnumA X.K ta) := by
  refine ⟨fun pins s σ H R I h => ?_⟩
  refine Call_ (ld_blt I hg hm boot_enumerate (PyProof.Rows.callWith_type1 (thn (ha.run pos pins s σ H _ I h) fun us s1 ⟨vs, H1, I1, r1, q1⟩ => ?_) hs rfl))
  obtain ⟨a, xs, ex, q1⟩ := q1
  subst ex
  cases r1 with
  | cons r rr =>
    cases rr
    cases r
    have fresh2 : ∀ b ∈ [s1.heap.objs.size + 1, s1.heap.objs.size], FpOk X pins H1 b := fun b hb => by
      have e' : b = s1.heap.objs.size + 1 ∨ b = s1.heap.objs.size := by simpa using hb
      have hle : s1.heap.objs.size ≤ b := by
        rcases e' with z | z
        · rw [z]; exact Nat.le_add_right _ _
        · rw [z]; exact Nat.le_refl _
      exact I1.fpOk hle (I1.hok.fresh hle)
    rcases q1 with ⟨hq, q⟩ | ⟨hq, q⟩
    · obtain ⟨its, rv, p', hz⟩ := I1.list hq
      refine call_enumerate_list p'.isList fun h' he hit hsz hk => wpAny_pyIter_enum he ?_
      have I2 : Inv X pins σ H1 { s1 with heap := h' } := I1.kept (t' := s1.toks) hk
      exact ⟨s1.heap.objs.size + 1, [s1.heap.objs.size + 1, s1.heap.objs.size], _, _, H1, rfl, I2, turn_enum a (s1.heap.objs.size + 1) s1.heap.objs.size, ⟨⟨.none, he⟩, hit, Nat.succ_ne_self _⟩, fresh2, q⟩
    · obtain ⟨its, rv, p', hz⟩ := I1.tuple hq
      have hlt : a < s1.heap.objs.size := by
        obtain ⟨o, ho, _⟩ := id p'
        exact Heap.lt_size ho
      refine call_enumerate_tuple (show s1.heap.IsTuple a its.toArray from p') fun h' he hit hsz hk => wpAny_pyIter_enum he ?_
      have I2 : Inv X pins σ H1 { s1 with heap := h' } := I1.kept (t' := s1.toks) hk
      exact ⟨s1.heap.objs.size + 1, [s1.heap.objs.size + 1, s1.heap.objs.size], _, _, H1, rfl, I2, turn_enumT a (s1.heap.objs.size + 1) s1.heap.objs.size (Nat.ne_of_lt hlt) (Nat.ne_of_lt (Nat.lt_succ_of_lt hlt)), ⟨⟨.none, he⟩, hit, Nat.succ_ne_self _⟩, fresh2, q⟩

/-! ### a list, a tuple, a range as it stands -/
def iSeq (K : PySem.W.Frag) (tl : TE) : TI := fun σ H R => tl σ H fun x H1 => ∃ a, x = .ref a ∧ (((∃ xs, SqL K H1 a xs) ∧ R (Itl K a) H1) ∨ ((∃ xs, SqT K H1 a xs) ∧ R (Itt K a) H1) ∨ ∃ lo hi, H1 a = some (.rng lo hi) ∧ rgOk lo hi ∧ R (Itr lo (hi - lo).toNat) H1)
theorem pi_seq {X : Cx} {tg l : Expr} {tl : TE} (hl : PE X l tl) : PI X tg l (iSeq X.K tl) := by
  refine ⟨fun pins s σ H R I h => ?_⟩
  refine thn (hl.run pins s σ H _ I h) fun v s1 ⟨x, H1, I1, r1, q1⟩ => ?_
  obtain ⟨a, e, q1⟩ := q1
  subst e
  cases r1
  have fresh1 : ∀ b ∈ [s1.heap.objs.size], FpOk X pins H1 b := fun b hb => by
    have e : b = s1.heap.objs.size := by simpa using hb
    subst e
    exact I1.fpOk (Nat.le_refl _) (I1.hok.fresh (Nat.le_refl _))
  rcases q1 with ⟨⟨xs, hq⟩, q⟩ | ⟨⟨xs, hq⟩, q⟩ | ⟨lo, hi, hq, ⟨g1, g2, g3, g4⟩, q⟩
  · obtain ⟨its, rv, p, hz⟩ := I1.list hq
    refine wpAny_pyIter_list p.isList ?_
    exact ⟨s1.heap.objs.size, [s1.heap.objs.size], _, _, H1, rfl, I1.kept (t' := s1.toks) fun b o e => Heap.get?_push_of_some _ e, turn_list a _, ⟨_, Heap.get?_push_size _ rfl, rfl, rfl⟩, fresh1, q⟩
  · obtain ⟨its, rv, p, hz⟩ := I1.tuple hq
    refine wpAny_pyIter_tuple (show s1.heap.IsTuple a its.toArray from p) ?_
    exact ⟨s1.heap.objs.size, [s1.heap.objs.size], _, _, H1, rfl, I1.kept (t' := s1.toks) fun b o e => Heap.get?_push_of_some _ e, turn_tuple a _, ⟨_, Heap.get?_push_size _ rfl, rfl, rfl⟩, fresh1, q⟩
  · obtain ⟨t, u, v, ho⟩ := (show ObjOk X.prog X.w H1 s1.heap a (.rng lo hi) from I1.hok a _ hq)
    refine wpAny_pyIter_range (show IsRange s1.heap a lo hi 1 t u v from ho) (small_one g1 g2 g3 g4) ?_
    refine ⟨s1.heap.objs.size, [s1.heap.objs.size], _, _, H1, rfl, I1.kept (t' := s1.toks) fun b o e => Heap.get?_push_of_some _ e, turn_range _ lo (hi - lo).toNat, ?_, fresh1, q⟩
    have e1 : lo + ((0 : Nat) : Int) * 1 = lo := by simp
    have e2 : (((hi - lo).toNat : Nat) : Int) - ((0 : Nat) : Int) = Builtin.Range.rangeSize lo hi 1 := by rw [rangeSize_one]; split <;> omega
    show IsRangeIter _ _ (lo + ((0 : Nat) : Int) * 1) ((((hi - lo).toNat : Nat) : Int) - ((0 : Nat) : Int)) 1
    rw [e1, e2]
    exact Heap.get?_push_size _ rfl
end Ev

set_option Elab.async false
set_option linter.all false
set_option maxRecDepth 100000
set_option maxHeartbeats 2000000
/-! Ev6: what loops walk, by data. -/
namespace Ev
open PySem PySem.Spec PyProof.Rows L2

/-- the own lists of a frame stand as they stood -/
def OwnOk (l : Lo) (σ : L2.St) (l' : Lo) (σ' : L2.St) : Prop := ∀ (i : Nat) xs, l[i]? = some (.own xs) → l'[i]? = some (.own xs) ∧ σ'[i]? = σ[i]?
theorem OwnOk.refl (l : Lo) (σ : L2.St) : OwnOk l σ l σ := fun _ _ h => ⟨h, rfl⟩
/-- J yields ds, one after another -/
structure Pres (T : Tx) (W1 : Wd) (l0 : Lo) (σ0 : L2.St) (J : It) (ds : List D) : Prop where
  go : ∀ {Av r m l σ H} (i : Nat), SR T Av r m l σ H → Ext W1 (wd Av r l σ H) → OwnOk l0 σ0 l σ → i < ds.length → J.go i H
  stop : ∀ {Av r m l σ H}, SR T Av r m l σ H → Ext W1 (wd Av r l σ H) → OwnOk l0 σ0 l σ → J.stop ds.length H
  yld : ∀ {Av r m l σ H} (i : Nat) x H', SR T Av r m l σ H → Ext W1 (wd Av r l σ H) → OwnOk l0 σ0 l σ → J.yld i H x H' → i < ds.length →
    SR T Av r m l σ H' ∧ Ext (wd Av r l σ H) (wd Av r l σ H') ∧ ∃ d, ds[i]? = some d ∧ Rep T (wd Av r l σ H') d x
def LookT (T : Tx) (W1 : Wd) (l0 : Lo) (σ0 : L2.St) (a : Addr) (ds : List D) : Prop :=
  ∀ {Av r m l σ H}, SR T Av r m l σ H → Ext W1 (wd Av r l σ H) → OwnOk l0 σ0 l σ → ∃ vs, SqT T.K H a vs ∧ Reps T (wd Av r l σ H) ds vs
def LookL (T : Tx) (W1 : Wd) (l0 : Lo) (σ0 : L2.St) (a : Addr) (ds : List D) : Prop :=
  ∀ {Av r m l σ H}, SR T Av r m l σ H → Ext W1 (wd Av r l σ H) → OwnOk l0 σ0 l σ → ∃ vs, SqL T.K H a vs ∧ Reps T (wd Av r l σ H) ds vs
section
variable {T : Tx} {W1 : Wd} {l0 : Lo} {σ0 : L2.St} {a b : Addr} {ds es : List D}
theorem RepB.lookT {l1 : Lo} {σ1 : L2.St} {v : V} (h : RepB T W1 l0 σ0 (.tup ds) v) : ∃ a, v = .ref a ∧ LookT T W1 l1 σ1 a ds := by
  have h0 := h.rep_of fun _ e => nomatch e
  obtain ⟨a, vs, rfl, _⟩ := h0.tup
  refine ⟨a, rfl, fun S x _ => ?_⟩
  obtain ⟨b, us, e, s, q⟩ := (Rep.ext x _ _ h0).tup
  cases e
  exact ⟨us, s, q⟩
theorem RepB.lookL {v : V} (h : RepB T W1 l0 σ0 (.lst ds) v) : ∃ a, v = .ref a ∧ LookL T W1 l0 σ0 a ds := by
  rcases h with h | ⟨i, xs, a, e, e1, e2, rfl⟩
  · obtain ⟨a, vs, rfl, _⟩ := h.lst
    refine ⟨a, rfl, fun S x _ => ?_⟩
    obtain ⟨b, us, e, s, q⟩ := (Rep.ext x _ _ h).lst
    cases e
    exact ⟨us, s, q⟩
  · cases e
    refine ⟨a, rfl, fun S x ok => ?_⟩
    obtain ⟨f1, f2⟩ := ok i ds e1
    obtain ⟨c, vs, e4, h1, h2, _⟩ := S.own_at f1
    rw [f2, e2] at e4
    cases e4
    exact ⟨vs, .inl (.inl h1), h2⟩
/-- the own lists that a reading may stand for -/
def lof (md : Md) (l : Lo) : Lo := match md with
  | .p => []
  | _ => l
theorem Rep.lookL {l1 : Lo} {σ1 : L2.St} {v : V} (h : Rep T W1 (.lst ds) v) : ∃ a, v = .ref a ∧ LookL T W1 l1 σ1 a ds := by
  obtain ⟨a, vs, rfl, _⟩ := h.lst
  refine ⟨a, rfl, fun S x _ => ?_⟩
  obtain ⟨b, us, e, s, q⟩ := (Rep.ext x _ _ h).lst
  cases e
  exact ⟨us, s, q⟩
theorem RepM.lookL {md : Md} {v : V} (h : RepM T W1 l0 σ0 md (.lst ds) v) : ∃ a, v = .ref a ∧ LookL T W1 (lof md l0) σ0 a ds := by
  cases md with
  | p => exact Rep.lookL h
  | b => exact RepB.lookL h
  | t => exact RepB.lookL h
theorem Reps.lt {W : Wd} {vs : List V} (h : Reps T W ds vs) {i : Nat} (hi : i < ds.length) : ∃ x, vs[i]? = some x := ⟨_, List.getElem?_eq_getElem (h.length ▸ hi)⟩
theorem pres_seqT (L : LookT T W1 l0 σ0 a ds) : Pres T W1 l0 σ0 (Itt T.K a) ds where
  go := fun i S x ok hi => by
    obtain ⟨vs, s, q⟩ := L S x ok
    obtain ⟨y, hy⟩ := q.lt hi
    exact ⟨vs, y, s, hy⟩
  stop := fun S x ok => by
    obtain ⟨vs, s, q⟩ := L S x ok
    exact ⟨vs, s, Nat.le_of_eq q.length.symm⟩
  yld := fun i y H' S x ok hy hi => by
    obtain ⟨vs, s, q⟩ := L S x ok
    obtain ⟨rfl, hy⟩ := hy
    obtain ⟨d, hd, hr⟩ := q.getV (hy vs s)
    exact ⟨S, Ext.refl _, d, hd, hr⟩
theorem pres_seqL (L : LookL T W1 l0 σ0 a ds) : Pres T W1 l0 σ0 (Itl T.K a) ds where
  go := fun i S x ok hi => by
    obtain ⟨vs, s, q⟩ := L S x ok
    obtain ⟨y, hy⟩ := q.lt hi
    exact ⟨vs, y, s, hy⟩
  stop := fun S x ok => by
    obtain ⟨vs, s, q⟩ := L S x ok
    exact ⟨vs, s, Nat.le_of_eq q.length.symm⟩
  yld := fun i y H' S x ok hy hi => by
    obtain ⟨vs, s, q⟩ := L S x ok
    obtain ⟨rfl, hy⟩ := hy
    obtain ⟨d, hd, hr⟩ := q.getV (hy vs s)
    exact ⟨S, Ext.refl _, d, hd, hr⟩
theorem rgL_len (lo hi : Int) : (rgL lo hi).length = (hi - lo).toNat := by unfold rgL; rw [List.length_map, List.length_range]
theorem rgL_get {lo hi : Int} {i : Nat} (h : i < (hi - lo).toNat) : (rgL lo hi)[i]? = some (.int (lo + (i : Nat))) := by
  unfold rgL
  rw [List.getElem?_map, List.getElem?_range h]
  rfl
theorem pres_rng (lo hi : Int) : Pres T W1 l0 σ0 (Itr lo (hi - lo).toNat) (rgL lo hi) where
  go := fun i S x ok hi => by rw [rgL_len] at hi; exact hi
  stop := fun S x ok => by rw [rgL_len]; exact Nat.le_refl _
  yld := fun i y H' S x ok hy h => by
    obtain ⟨rfl, rfl⟩ := hy
    rw [rgL_len] at h
    exact ⟨S, Ext.refl _, _, rgL_get h, rfl⟩
theorem rev_rg {lo hi : Int} {i : Nat} (h : i < (hi - lo).toNat) : (rgL lo hi).reverse[i]? = some (.int (lo + (((hi - lo).toNat : Nat) : Int) - 1 + (i : Nat) * -1)) := by
  rw [List.getElem?_reverse (by rw [rgL_len]; exact h), rgL_len, rgL_get (by omega)]
  congr 2
  omega
theorem pres_revRng (lo hi : Int) : Pres T W1 l0 σ0 (Itc (lo + (((hi - lo).toNat : Nat) : Int) - 1) (-1) (hi - lo).toNat) (rgL lo hi).reverse where
  go := fun i S x ok hi => by rw [List.length_reverse, rgL_len] at hi; exact hi
  stop := fun S x ok => by rw [List.length_reverse, rgL_len]; exact Nat.le_refl _
  yld := fun i y H' S x ok hy h => by
    obtain ⟨rfl, rfl⟩ := hy
    rw [List.length_reverse, rgL_len] at h
    exact ⟨S, Ext.refl _, _, rev_rg h, rfl⟩
/-- a new pair -/
theorem pair_new {Av r m l σ H} {i : Nat} {d e : D} {x y : V} {p : Addr} (S : SR T Av r m l σ H) (hp : H p = none) (hd : Rep T (wd Av r l σ H) d x) (he : Rep T (wd Av r l σ H) e y) :
    SR T Av r m l σ (upd H p (.tup [x, y])) ∧ Ext (wd Av r l σ H) (wd Av r l σ (upd H p (.tup [x, y]))) ∧ Rep T (wd Av r l σ (upd H p (.tup [x, y]))) (.tup [d, e]) (.ref p) :=
  ⟨S.new hp, Ext.new S hp, Rep.newTup S hp (Reps.cons hd (Reps.cons he Reps.nil))⟩
def enumD (ds : List D) : List D := ds.zipIdx.map fun p => .tup [.int (p.2 : Nat), p.1]
theorem enumD_len : (enumD ds).length = ds.length := by unfold enumD; simp
theorem enumD_get {i : Nat} {d : D} (h : ds[i]? = some d) : (enumD ds)[i]? = some (.tup [.int (i : Nat), d]) := by
  unfold enumD
  rw [List.getElem?_map, List.getElem?_zipIdx, h]
  simp
theorem pres_enumL (L : LookL T W1 l0 σ0 a ds) : Pres T W1 l0 σ0 (Ite T.K a) (enumD ds) where
  go := fun i S x ok hi => by
    rw [enumD_len] at hi
    obtain ⟨vs, s, q⟩ := L S x ok
    obtain ⟨y, hy⟩ := q.lt hi
    exact ⟨vs, y, s, hy⟩
  stop := fun S x ok => by
    rw [enumD_len]
    obtain ⟨vs, s, q⟩ := L S x ok
    exact ⟨vs, s, Nat.le_of_eq q.length.symm⟩
  yld := fun i y H' S x ok hy hi => by
    obtain ⟨vs, s, q⟩ := L S x ok
    obtain ⟨p, z, rfl, hp, rfl, hy⟩ := hy
    obtain ⟨d, hd, hr⟩ := q.getV (hy vs s)
    obtain ⟨S', x', h'⟩ := pair_new (i := i) S hp (d := .int (i : Nat)) (x := .int (i : Nat)) rfl hr
    exact ⟨S', x', _, enumD_get hd, h'⟩
theorem pres_enumT (L : LookT T W1 l0 σ0 a ds) : Pres T W1 l0 σ0 (IteT T.K a) (enumD ds) where
  go := fun i S x ok hi => by
    rw [enumD_len] at hi
    obtain ⟨vs, s, q⟩ := L S x ok
    obtain ⟨y, hy⟩ := q.lt hi
    exact ⟨vs, y, s, hy⟩
  stop := fun S x ok => by
    rw [enumD_len]
    obtain ⟨vs, s, q⟩ := L S x ok
    exact ⟨vs, s, Nat.le_of_eq q.length.symm⟩
  yld := fun i y H' S x ok hy hi => by
    obtain ⟨vs, s, q⟩ := L S x ok
    obtain ⟨p, z, rfl, hp, rfl, hy⟩ := hy
    obtain ⟨d, hd, hr⟩ := q.getV (hy vs s)
    obtain ⟨S', x', h'⟩ := pair_new (i := i) S hp (d := .int (i : Nat)) (x := .int (i : Nat)) rfl hr
    exact ⟨S', x', _, enumD_get hd, h'⟩
def zipD (ds es : List D) : List D := (ds.zip es).map fun p => .tup [p.1, p.2]
theorem zipD_len : (zipD ds es).length = min ds.length es.length := by unfold zipD; simp
theorem zipD_get {i : Nat} {d e : D} (h : ds[i]? = some d) (h2 : es[i]? = some e) : (zipD ds es)[i]? = some (.tup [d, e]) := by
  unfold zipD
  have e1 : (ds.zip es)[i]? = some (d, e) := List.getElem?_zip_eq_some.mpr ⟨h, h2⟩
  rw [List.getElem?_map, e1]
  rfl
theorem pres_zipL (L : LookL T W1 l0 σ0 a ds) (M : LookL T W1 l0 σ0 b es) : Pres T W1 l0 σ0 (Itz T.K a b) (zipD ds es) where
  go := fun i S x ok hi => by
    rw [zipD_len] at hi
    obtain ⟨vs, s, q⟩ := L S x ok
    obtain ⟨us, s2, q2⟩ := M S x ok
    obtain ⟨y, hy⟩ := q.lt (Nat.lt_of_lt_of_le hi (Nat.min_le_left _ _))
    obtain ⟨z, hz⟩ := q2.lt (Nat.lt_of_lt_of_le hi (Nat.min_le_right _ _))
    exact ⟨vs, us, y, z, s, s2, hy, hz⟩
  stop := fun S x ok => by
    rw [zipD_len]
    obtain ⟨vs, s, q⟩ := L S x ok
    obtain ⟨us, s2, q2⟩ := M S x ok
    refine ⟨vs, us, s, s2, ?_⟩
    rw [q.length, q2.length]
    by_cases h : vs.length ≤ us.length
    · exact .inl (by rw [Nat.min_eq_left h]; exact Nat.le_refl _)
    · exact .inr (by rw [Nat.min_eq_right (by omega)]; exact Nat.le_refl _)
  yld := fun i y H' S x ok hy hi => by
    obtain ⟨vs, s, q⟩ := L S x ok
    obtain ⟨us, s2, q2⟩ := M S x ok
    obtain ⟨p, z, z2, rfl, hp, rfl, hy, hy2⟩ := hy
    obtain ⟨d, hd, hr⟩ := q.getV (hy vs s)
    obtain ⟨e, he, hr2⟩ := q2.getV (hy2 us s2)
    obtain ⟨S', x', h'⟩ := pair_new (i := i) S hp hr hr2
    exact ⟨S', x', _, zipD_get hd he, h'⟩
theorem pres_zipT (L : LookT T W1 l0 σ0 a ds) (M : LookT T W1 l0 σ0 b es) : Pres T W1 l0 σ0 (RZ.ItzT T.K a b) (zipD ds es) where
  go := fun i S x ok hi => by
    rw [zipD_len] at hi
    obtain ⟨vs, s, q⟩ := L S x ok
    obtain ⟨us, s2, q2⟩ := M S x ok
    obtain ⟨y, hy⟩ := q.lt (Nat.lt_of_lt_of_le hi (Nat.min_le_left _ _))
    obtain ⟨z, hz⟩ := q2.lt (Nat.lt_of_lt_of_le hi (Nat.min_le_right _ _))
    exact ⟨vs, us, y, z, s, s2, hy, hz⟩
  stop := fun S x ok => by
    rw [zipD_len]
    obtain ⟨vs, s, q⟩ := L S x ok
    obtain ⟨us, s2, q2⟩ := M S x ok
    refine ⟨vs, us, s, s2, ?_⟩
    rw [q.length, q2.length]
    by_cases h : vs.length ≤ us.length
    · exact .inl (by rw [Nat.min_eq_left h]; exact Nat.le_refl _)
    · exact .inr (by rw [Nat.min_eq_right (by omega)]; exact Nat.le_refl _)
  yld := fun i y H' S x ok hy hi => by
    obtain ⟨vs, s, q⟩ := L S x ok
    obtain ⟨us, s2, q2⟩ := M S x ok
    obtain ⟨p, z, z2, rfl, hp, rfl, hy, hy2⟩ := hy
    obtain ⟨d, hd, hr⟩ := q.getV (hy vs s)
    obtain ⟨e, he, hr2⟩ := q2.getV (hy2 us s2)
    obtain ⟨S', x', h'⟩ := pair_new (i := i) S hp hr hr2
    exact ⟨S', x', _, zipD_get hd he, h'⟩
theorem pres_revL {n : Nat} (L : LookL T W1 l0 σ0 a ds) (hn : n = ds.length) : Pres T W1 l0 σ0 (Itv T.K a n) ds.reverse where
  go := fun i S x ok hi => by
    rw [List.length_reverse] at hi
    obtain ⟨vs, s, q⟩ := L S x ok
    obtain ⟨y, hy⟩ := q.lt (show ds.length - 1 - i < ds.length by omega)
    exact ⟨by omega, vs, y, s, by rw [hn]; exact hy⟩
  stop := fun S x ok => by
    rw [List.length_reverse]
    exact Nat.le_of_eq hn
  yld := fun i y H' S x ok hy hi => by
    rw [List.length_reverse] at hi
    obtain ⟨vs, s, q⟩ := L S x ok
    obtain ⟨rfl, hy⟩ := hy
    have hl := q.length
    obtain ⟨d, hd, hr⟩ := q.getV (hy vs s)
    refine ⟨S, Ext.refl _, d, ?_, hr⟩
    rw [List.getElem?_reverse hi, ← hn]
    exact hd
theorem pres_revT {n : Nat} (L : LookT T W1 l0 σ0 a ds) (hn : n = ds.length) : Pres T W1 l0 σ0 (RT.ItvT T.K a n) ds.reverse where
  go := fun i S x ok hi => by
    rw [List.length_reverse] at hi
    obtain ⟨vs, s, q⟩ := L S x ok
    obtain ⟨y, hy⟩ := q.lt (show ds.length - 1 - i < ds.length by omega)
    exact ⟨by omega, vs, y, s, by rw [hn]; exact hy⟩
  stop := fun S x ok => by
    rw [List.length_reverse]
    exact Nat.le_of_eq hn
  yld := fun i y H' S x ok hy hi => by
    rw [List.length_reverse] at hi
    obtain ⟨vs, s, q⟩ := L S x ok
    obtain ⟨rfl, hy⟩ := hy
    have hl := q.length
    obtain ⟨d, hd, hr⟩ := q.getV (hy vs s)
    refine ⟨S, Ext.refl _, d, ?_, hr⟩
    rw [List.getElem?_reverse hi, ← hn]
    exact hd
end
end Ev

set_option Elab.async false
set_option linter.all false
set_option maxRecDepth 100000
set_option maxHeartbeats 2000000
/-! Ev7: the checker of expressions; index, slices, builtins by data. -/
namespace Ev
open PySem PySem.Spec PyProof.Rows L2

/-! ### index and slices -/
section
variable {X : Cx} {T : Tx}
theorem atI_reps {W : Wd} {ds : List D} {vs : List V} {i : Int} {d : D} (h : Reps T W ds vs) (e : atI ds i = some d) : ∃ v, atI vs i = some v ∧ Rep T W d v := by
  unfold atI at e ⊢
  obtain ⟨j, e1, e2⟩ := Option.bind_eq_some_iff.mp e
  obtain ⟨v, e3, e4⟩ := h.get e2
  exact ⟨v, Option.bind_eq_some_iff.mpr ⟨j, by rw [← h.length]; exact e1, e3⟩, e4⟩
theorem ix_ok (hK : X.K = T.K) {Av : Addr → Prop} {r : List Addr} {m : Sto} {l : Lo} {σ : L2.St} {H : Hp} {x y z : D} {v u : V} (S : SR T Av r m l σ H) (hx : RepB T (wd Av r l σ H) l σ x v) (hy : Rep T (wd Av r l σ H) y u) (e : dIdx m x y = some z) {Q : VK}
    (q : ∀ w, Rep T (wd Av r l σ H) z w → Q w H) : rIx X.K v u H Q := by
  cases x with
  | tup xs =>
    cases y with
    | int i =>
      obtain ⟨a, vs, rfl, s, hr⟩ := hx.tup
      obtain ⟨w, e1, hw⟩ := atI_reps hr (show atI xs i = some z from e)
      exact .inr (.inl ⟨a, vs, i, w, rfl, hy, by rw [hK]; exact s, e1, q w hw⟩)
    | _ => cases e
  | lst xs =>
    cases y with
    | int i =>
      obtain ⟨a, vs, rfl, s, hr⟩ := hx.lst S
      obtain ⟨w, e1, hw⟩ := atI_reps hr (show atI xs i = some z from e)
      exact .inl ⟨a, vs, i, w, rfl, hy, .inl s, e1, q w hw⟩
    | _ => cases e
  | loc n =>
    cases y with
    | int i =>
      obtain ⟨a, rfl, ha⟩ := hx.rep_of fun _ e => nomatch e
      have e' : (match m[n]? with
        | some (.lst xs) => atI xs i
        | none => none) = some z := e
      cases em : m[n]? with
      | none =>
        rw [em] at e'
        cases e'
      | some o =>
        cases o with
        | lst xs =>
          rw [em] at e'
          obtain ⟨vs, h1, hr⟩ := S.mem n xs a em ha
          obtain ⟨w, e1, hw⟩ := atI_reps hr (show atI xs i = some z from e')
          exact .inl ⟨a, vs, i, w, rfl, hy, .inl (.inl h1), e1, q w hw⟩
    | _ => cases e
  | str s =>
    cases y with
    | int i =>
      have e' : (if s.length ≤ sizeLine then (atI s.cps.toList i).map fun c => D.str ⟨#[c]⟩ else none) = some z := e
      split at e'
      · rename_i hl
        obtain ⟨c, e1, rfl⟩ := Option.map_eq_some_iff.mp e'
        exact .inr (.inr ⟨s, i, c, hx.str, hy, hl, e1, q _ rfl⟩)
      · cases e'
    | _ => cases e
  | _ => cases e
theorem cut_reps {W : Wd} {ds : List D} {vs : List V} {lo hi : Option Int} (h : Reps T W ds vs) : Reps T W (cutL ds lo hi) (cutV vs lo hi) := by
  unfold cutL cutV
  rw [h.length]
  exact (h.drop _).take _
theorem sl_ok (hK : X.K = T.K) {Av : Addr → Prop} {r : List Addr} {m : Sto} {l : Lo} {σ : L2.St} {H : Hp} {x z : D} {lo hi : Option Int} {v : V} (S : SR T Av r m l σ H) (hx : RepB T (wd Av r l σ H) l σ x v) (e : dSlc x lo hi = some z) {Q : VK}
    (q : ∀ w H', SR T Av r m l σ H' → Ext (wd Av r l σ H) (wd Av r l σ H') → Rep T (wd Av r l σ H') z w → Q w H') : rSlA X.K v lo hi H Q ∨ rSlL X.K v lo hi H Q := by
  cases x with
  | tup xs =>
    cases (show some (D.tup (cutL xs lo hi)) = some z from e)
    have h0 := hx.rep_of fun _ e => nomatch e
    obtain ⟨a, vs, rfl, s, hr⟩ := hx.tup
    refine .inl ⟨a, vs, rfl, by rw [hK]; exact s, fun ⟨c1, c2⟩ => ?_, fun _ p hp => q _ _ (S.new hp) (Ext.new S hp) (Rep.newTup S hp (cut_reps hr))⟩
    have e1 : cutL xs lo hi = xs := by
      unfold cutL
      rw [hr.length, c1, c2, Nat.sub_zero, ← hr.length]
      show List.take xs.length xs = xs
      exact List.take_length
    rw [e1] at q
    exact q _ _ S (Ext.refl _) h0
  | lst xs =>
    cases (show some (D.lst (cutL xs lo hi)) = some z from e)
    obtain ⟨a, vs, rfl, s, hr⟩ := hx.lst S
    exact .inr ⟨a, vs, rfl, .inl s, fun p hp => q _ _ (S.new hp) (Ext.new S hp) (Rep.newLst S hp (cut_reps hr))⟩
  | _ => cases e
end

/-! ### builtins -/
/-- a builtin's rule for the data's operation -/
def OpB (X : Cx) (T : Tx) (rr : List V → Hp → VK → Prop) (b : BI) : Prop :=
  ∀ {Av : Addr → Prop} {r : List Addr} {m : Sto} {l : Lo} {σ : L2.St} {H : Hp} {xs : List D} {z : D} {vs : List V}, SR T Av r m l σ H → RepsM T (wd Av r l σ H) l σ .b xs vs → dBI m b xs = some z →
    ∀ Q : VK, (∀ w H', SR T Av r m l σ H' → Ext (wd Av r l σ H) (wd Av r l σ H') → Rep T (wd Av r l σ H') z w → Q w H') → rr vs H Q
section
variable {X : Cx} {T : Tx}
theorem RepsM.one {W : Wd} {l : Lo} {σ : L2.St} {md : Md} {x : D} {vs : List V} (h : RepsM T W l σ md [x] vs) : ∃ v, vs = [v] ∧ RepM T W l σ md x v := by
  obtain ⟨v, r, rfl, h1, h2⟩ := h
  cases (show r = [] from h2)
  exact ⟨v, rfl, h1⟩
theorem RepsM.two {W : Wd} {l : Lo} {σ : L2.St} {md : Md} {x y : D} {vs : List V} (h : RepsM T W l σ md [x, y] vs) : ∃ v u, vs = [v, u] ∧ RepM T W l σ md x v ∧ RepM T W l σ md y u := by
  obtain ⟨v, r, rfl, h1, h2⟩ := h
  obtain ⟨u, rfl, h3⟩ := RepsM.one h2
  exact ⟨v, u, rfl, h1, h3⟩
theorem bls_reps {W : Wd} : ∀ {xs : List D} {vs : List V} {bs : List Bool}, Reps T W xs vs → bls? xs = some bs → vs = bs.map V.bl
  | [], _, _, h, e => by
    cases (show _ = [] from h)
    cases (show some [] = some _ from e)
    rfl
  | d :: ds, _, bs, h, e => by
    obtain ⟨v, r, rfl, h1, h2⟩ := h
    unfold bls? at e
    rw [List.mapM_cons] at e
    obtain ⟨b, e1, e2⟩ := Option.bind_eq_some_iff.mp e
    obtain ⟨cs, e3, e4⟩ := Option.bind_eq_some_iff.mp e2
    cases (show some (b :: cs) = some bs from e4)
    cases d with
    | bl c =>
      cases (show some c = some b from e1)
      rw [(show v = .bl b from h1), bls_reps h2 e3]
      rfl
    | _ => cases e1
theorem ints_reps {W : Wd} : ∀ {xs : List D} {vs : List V} {bs : List Int}, Reps T W xs vs → ints? xs = some bs → vs = bs.map V.int
  | [], _, _, h, e => by
    cases (show _ = [] from h)
    cases (show some [] = some _ from e)
    rfl
  | d :: ds, _, bs, h, e => by
    obtain ⟨v, r, rfl, h1, h2⟩ := h
    unfold ints? at e
    rw [List.mapM_cons] at e
    obtain ⟨b, e1, e2⟩ := Option.bind_eq_some_iff.mp e
    obtain ⟨cs, e3, e4⟩ := Option.bind_eq_some_iff.mp e2
    cases (show some (b :: cs) = some bs from e4)
    cases d with
    | int c =>
      cases (show some c = some b from e1)
      rw [(show v = .int b from h1), ints_reps h2 e3]
      rfl
    | _ => cases e1
theorem b_len (hK : X.K = T.K) : ∃ rr, CallR X (.builtin "len") rr ∧ OpB X T rr .len := by
  refine ⟨_, call_len_seq.or call_len_str, ?_⟩
  intro Av r m l σ H xs z vs S h e Q q
  cases xs with
  | nil => cases e
  | cons x xs =>
    cases xs with
    | cons y ys => cases x <;> cases e
    | nil =>
      obtain ⟨v, rfl, hx⟩ := h.one
      cases x with
      | tup ys =>
        cases (show some (D.int ys.length) = some z from e)
        obtain ⟨a, us, rfl, s, hr⟩ := RepB.tup hx
        rw [hr.length] at q
        exact .inl ⟨a, us, rfl, .inr (by rw [hK]; exact s), q _ _ S (Ext.refl _) rfl⟩
      | lst ys =>
        cases (show some (D.int ys.length) = some z from e)
        obtain ⟨a, us, rfl, s, hr⟩ := RepB.lst S hx
        rw [hr.length] at q
        exact .inl ⟨a, us, rfl, .inl (.inl s), q _ _ S (Ext.refl _) rfl⟩
      | loc n =>
        obtain ⟨a, rfl, ha⟩ := RepB.rep_of hx fun _ e => nomatch e
        have e' : (match m[n]? with
          | some (.lst ys) => some (D.int ys.length)
          | none => none) = some z := e
        cases em : m[n]? with
        | none =>
          rw [em] at e'
          cases e'
        | some o =>
          cases o with
          | lst ys =>
            rw [em] at e'
            cases e'
            obtain ⟨us, h1, hr⟩ := S.mem n ys a em ha
            rw [hr.length] at q
            exact .inl ⟨a, us, rfl, .inl (.inl (.inl h1)), q _ _ S (Ext.refl _) rfl⟩
      | str s =>
        obtain ⟨hl, rfl⟩ := ite_some (show (if s.length ≤ sizeLine then some (D.int s.length) else none) = some z from e)
        exact .inr ⟨s, by rw [RepB.str hx], hl, q _ _ S (Ext.refl _) rfl⟩
      | _ => cases e
theorem b_int : ∃ rr, CallR X (.type "int") rr ∧ OpB X T rr .int := by
  refine ⟨_, call_int1, ?_⟩
  intro Av r m l σ H xs z vs S h e Q q
  cases xs with
  | nil => cases e
  | cons x xs =>
    cases xs with
    | cons y ys => cases x <;> cases e
    | nil =>
      obtain ⟨v, rfl, hx⟩ := h.one
      cases x with
      | int i =>
        cases (show some (D.int i) = some z from e)
        exact .inl ⟨i, by rw [RepB.int hx], q _ _ S (Ext.refl _) rfl⟩
      | bl k =>
        cases (show some (D.int (if k then 1 else 0)) = some z from e)
        exact .inr ⟨k, by rw [RepB.bl hx], q _ _ S (Ext.refl _) rfl⟩
      | _ => cases e
theorem b_bool : ∃ rr, CallR X (.type "bool") rr ∧ OpB X T rr .bool := by
  refine ⟨_, call_bool1, ?_⟩
  intro Av r m l σ H xs z vs S h e Q q
  cases xs with
  | nil => cases e
  | cons x xs =>
    cases xs with
    | cons y ys => cases x <;> cases e
    | nil =>
      obtain ⟨v, rfl, hx⟩ := h.one
      cases x with
      | int i =>
        cases (show some (D.bl (i != 0)) = some z from e)
        exact .inl ⟨i, by rw [RepB.int hx], q _ _ S (Ext.refl _) rfl⟩
      | bl k =>
        cases (show some (D.bl k) = some z from e)
        exact .inr ⟨k, by rw [RepB.bl hx], q _ _ S (Ext.refl _) rfl⟩
      | _ => cases e
theorem b_abs : ∃ rr, CallR X (.builtin "abs") rr ∧ OpB X T rr .abs := by
  refine ⟨_, call_abs, ?_⟩
  intro Av r m l σ H xs z vs S h e Q q
  cases xs with
  | nil => cases e
  | cons x xs =>
    cases xs with
    | cons y ys => cases x <;> cases e
    | nil =>
      obtain ⟨v, rfl, hx⟩ := h.one
      cases x with
      | int i =>
        cases (show some (D.int (if i < 0 then -i else i)) = some z from e)
        exact ⟨i, by rw [RepB.int hx], q _ _ S (Ext.refl _) rfl⟩
      | _ => cases e
theorem two_ints {b : BI} {g : Int → Int → Int} {id : String} (hc : CallR X (.builtin id) (fun xs H Q => ∃ i j, xs = [.int i, .int j] ∧ Q (.int (g i j)) H)) (hd : ∀ m xs z, dBI m b xs = some z → ∃ i j, xs = [.int i, .int j] ∧ z = .int (g i j)) :
    ∃ rr, CallR X (.builtin id) rr ∧ OpB X T rr b := by
  refine ⟨_, hc, ?_⟩
  intro Av r m l σ H xs z vs S h e Q q
  obtain ⟨i, j, rfl, rfl⟩ := hd m xs z e
  obtain ⟨v, u, rfl, h1, h2⟩ := h.two
  exact ⟨i, j, by rw [RepB.int h1, RepB.int h2], q _ _ S (Ext.refl _) rfl⟩
theorem b_max2 (hc : X.calm = true) : ∃ rr, CallR X (.builtin "max") rr ∧ OpB X T rr .max2 := two_ints (call_max2 hc) fun m xs z e => by
  match xs, e with
  | [.int i, .int j], e => exact ⟨i, j, rfl, (Option.some.inj e).symm⟩
theorem b_min2 (hc : X.calm = true) : ∃ rr, CallR X (.builtin "min") rr ∧ OpB X T rr .min2 := two_ints (call_min2 hc) fun m xs z e => by
  match xs, e with
  | [.int i, .int j], e => exact ⟨i, j, rfl, (Option.some.inj e).symm⟩
theorem b_tuple (hK : X.K = T.K) : ∃ rr, CallR X (.type "tuple") rr ∧ OpB X T rr .tuple := by
  refine ⟨_, call_tuple_of, ?_⟩
  intro Av r m l σ H xs z vs S h e Q q
  match xs, e, h with
  | [.tup ys], e, h =>
    obtain ⟨v, rfl, hx⟩ := h.one
    cases (show some (D.tup ys) = some z from e)
    have h0 := RepB.rep_of hx fun _ e => nomatch e
    obtain ⟨a, us, rfl, s, hr⟩ := RepB.tup hx
    exact ⟨a, us, rfl, .inr ⟨by rw [hK]; exact s, q _ _ S (Ext.refl _) h0⟩⟩
  | [.lst ys], e, h =>
    obtain ⟨v, rfl, hx⟩ := h.one
    cases (show some (D.tup ys) = some z from e)
    obtain ⟨a, us, rfl, s, hr⟩ := RepB.lst S hx
    exact ⟨a, us, rfl, .inl ⟨.inl s, fun p hp => q _ _ (S.new hp) (Ext.new S hp) (Rep.newTup S hp hr)⟩⟩
theorem b_list (hK : X.K = T.K) : ∃ rr, CallR X (.type "list") rr ∧ OpB X T rr .list := by
  refine ⟨_, call_list_of, ?_⟩
  intro Av r m l σ H xs z vs S h e Q q
  match xs, e, h with
  | [.tup ys], e, h =>
    obtain ⟨v, rfl, hx⟩ := h.one
    cases (show some (D.lst ys) = some z from e)
    obtain ⟨a, us, rfl, s, hr⟩ := RepB.tup hx
    exact ⟨a, us, rfl, .inr (by rw [hK]; exact s), fun p hp => q _ _ (S.new hp) (Ext.new S hp) (Rep.newLst S hp hr)⟩
  | [.lst ys], e, h =>
    obtain ⟨v, rfl, hx⟩ := h.one
    cases (show some (D.lst ys) = some z from e)
    obtain ⟨a, us, rfl, s, hr⟩ := RepB.lst S hx
    exact ⟨a, us, rfl, .inl (.inl s), fun p hp => q _ _ (S.new hp) (Ext.new S hp) (Rep.newLst S hp hr)⟩
theorem b_any (hc : X.calm = true) : ∃ rr, CallR X (.builtin "any") rr ∧ OpB X T rr .any := by
  refine ⟨_, cr_any hc, ?_⟩
  intro Av r m l σ H xs z vs S h e Q q
  match xs, e, h with
  | [.lst ys], e, h =>
    obtain ⟨v, rfl, hx⟩ := h.one
    obtain ⟨bs, e1, rfl⟩ := Option.map_eq_some_iff.mp (show (bls? ys).map (fun bs => D.bl (bs.any id)) = some z from e)
    obtain ⟨a, us, rfl, s, hr⟩ := RepB.lst S hx
    rw [bls_reps hr e1] at s
    exact ⟨a, bs, rfl, .inl s, q _ _ S (Ext.refl _) rfl⟩
theorem b_all (hc : X.calm = true) : ∃ rr, CallR X (.builtin "all") rr ∧ OpB X T rr .all := by
  refine ⟨_, cr_all hc, ?_⟩
  intro Av r m l σ H xs z vs S h e Q q
  match xs, e, h with
  | [.lst ys], e, h =>
    obtain ⟨v, rfl, hx⟩ := h.one
    obtain ⟨bs, e1, rfl⟩ := Option.map_eq_some_iff.mp (show (bls? ys).map (fun bs => D.bl (bs.all id)) = some z from e)
    obtain ⟨a, us, rfl, s, hr⟩ := RepB.lst S hx
    rw [bls_reps hr e1] at s
    exact ⟨a, bs, rfl, .inl s, q _ _ S (Ext.refl _) rfl⟩
theorem b_sum (hc : X.calm = true) : ∃ rr, CallR X (.builtin "sum") rr ∧ OpB X T rr .sum := by
  refine ⟨_, cr_sum hc, ?_⟩
  intro Av r m l σ H xs z vs S h e Q q
  match xs, e, h with
  | [.lst ys], e, h =>
    obtain ⟨v, rfl, hx⟩ := h.one
    obtain ⟨bs, e1, rfl⟩ := Option.map_eq_some_iff.mp (show (ints? ys).map (fun bs => D.int bs.sum) = some z from e)
    obtain ⟨a, us, rfl, s, hr⟩ := RepB.lst S hx
    rw [ints_reps hr e1] at s
    exact ⟨a, bs, rfl, .inl s, q _ _ S (Ext.refl _) rfl⟩
/-- range(..) as a value -/
theorem cr_rangeE : CallR X (.type "range") (fun vs H Q => (∃ j, vs = [V.int j] ∧ ∀ p, H p = none → Q (.ref p) (upd H p (.rng 0 j))) ∨ ∃ i j, vs = [V.int i, V.int j] ∧ ∀ p, H p = none → Q (.ref p) (upd H p (.rng i j))) := by
  intro pins s σ H vs us Q I r h
  rcases h with ⟨j, rfl, q⟩ | ⟨i, j, rfl, q⟩
  · obtain ⟨u, rfl, rj⟩ := vals1 r
    obtain ⟨t, rfl⟩ := rj
    refine call_range_1 ⟨.ref s.heap.objs.size, upd H s.heap.objs.size (.rng 0 j), I.laid (t' := s.toks + 1 + 1) (fun b o e => Heap.get?_push_of_some _ e) (Nat.le_refl _) ?_, rfl, q _ (I.hok.fresh (Nat.le_refl _))⟩
    exact ⟨s.toks, t, s.toks + 1, Heap.get?_push_size _ rfl⟩
  · obtain ⟨u1, u2, rfl, ri, rj⟩ := vals2 r
    obtain ⟨t, rfl⟩ := ri
    obtain ⟨u, rfl⟩ := rj
    refine call_range_2 ⟨.ref s.heap.objs.size, upd H s.heap.objs.size (.rng i j), I.laid (t' := s.toks + 1) (fun b o e => Heap.get?_push_of_some _ e) (Nat.le_refl _) ?_, rfl, q _ (I.hok.fresh (Nat.le_refl _))⟩
    exact ⟨t, u, s.toks, Heap.get?_push_size _ rfl⟩
theorem Rep.newRng {Av : Addr → Prop} {r : List Addr} {m : Sto} {l : Lo} {σ : L2.St} {H : Hp} (S : SR T Av r m l σ H) {p : Addr} {lo hi : Int} (hp : H p = none) : Rep T (wd Av r l σ (upd H p (.rng lo hi))) (.rng lo hi) (.ref p) :=
  ⟨p, rfl, upd_same, fun z => S.freshM hp z, fun z => S.freshA hp z⟩
theorem b_range : ∃ rr, CallR X (.type "range") rr ∧ OpB X T rr .range := by
  refine ⟨_, cr_rangeE, ?_⟩
  intro Av r m l σ H xs z vs S h e Q q
  match xs, e, h with
  | [.int j], e, h =>
    obtain ⟨v, rfl, hx⟩ := h.one
    cases (show some (D.rng 0 j) = some z from e)
    exact .inl ⟨j, by rw [RepB.int hx], fun p hp => q _ _ (S.new hp) (Ext.new S hp) (Rep.newRng S hp)⟩
  | [.int i, .int j], e, h =>
    obtain ⟨v, u, rfl, h1, h2⟩ := h.two
    cases (show some (D.rng i j) = some z from e)
    exact .inr ⟨i, j, by rw [RepB.int h1, RepB.int h2], fun p hp => q _ _ (S.new hp) (Ext.new S hp) (Rep.newRng S hp)⟩
/-! isinstance with a built-in class -/
def Ty.name : Ty → String
  | .int => "int"
  | .bool => "bool"
  | .str => "str"
  | .tuple => "tuple"
  | .list => "list"
def D.tyName : D → Option String
  | .non => some "NoneType"
  | .bl _ => some "bool"
  | .int _ => some "int"
  | .str _ => some "str"
  | .tup _ => some "tuple"
  | .lst _ => some "list"
  | _ => none
theorem kit_d {K : PySem.W.Frag} {d : D} {t : Ty} {b : Bool} {n : String} (e : d.isTy t = some b) (hn : d.tyName = some n) : PySem.W.kitOne K (.type n) (.type t.name) = some b := by
  refine kit_ty ?_
  cases d with
  | non =>
    cases hn
    cases t <;> cases e <;> decide +kernel
  | bl k =>
    cases hn
    cases t <;> cases e <;> decide +kernel
  | int k =>
    cases hn
    cases t <;> cases e <;> decide +kernel
  | str k =>
    cases hn
    cases t <;> cases e <;> decide +kernel
  | tup k =>
    cases hn
    cases t <;> cases e <;> decide +kernel
  | lst k =>
    cases hn
    cases t <;> cases e <;> decide +kernel
  | _ => cases hn
theorem tyx {Av : Addr → Prop} {r : List Addr} {m : Sto} {l : Lo} {σ : L2.St} {H : Hp} {d : D} {v : V} {n : String} (S : SR T Av r m l σ H) (h : RepB T (wd Av r l σ H) l σ d v) (hn : d.tyName = some n) : TyX T.K H v (.type n) := by
  cases d with
  | non => cases hn; cases h.non; exact .base .non
  | bl k => cases hn; cases h.bl; exact .base (.bl k)
  | int k => cases hn; cases h.int; exact .base (.int k)
  | str k => cases hn; cases h.str; exact .base (.str k)
  | tup k =>
    cases hn
    obtain ⟨a, vs, rfl, s, _⟩ := h.tup
    rcases s with (s | ⟨o, s⟩) | ⟨o, its, n, hk, hc, _⟩
    · exact .base (.tup s)
    · exact .fTuple s
    · exact .kTuple hk hc
  | lst k =>
    cases hn
    obtain ⟨a, vs, rfl, s, _⟩ := h.lst S
    rcases s with s | ⟨o, s⟩
    · exact .base (.lst s)
    · exact .base (.frz s)
  | _ => cases hn
theorem isTy_name {d : D} {t : Ty} {b : Bool} (e : d.isTy t = some b) : ∃ n, d.tyName = some n := by
  cases d with
  | loc _ => cases e
  | obj _ _ => cases e
  | rng _ _ => cases e
  | _ => exact ⟨_, rfl⟩
theorem isi_ok (hK : X.K = T.K) {Av : Addr → Prop} {r : List Addr} {m : Sto} {l : Lo} {σ : L2.St} {H : Hp} {d : D} {t : Ty} {b : Bool} {v : V} (S : SR T Av r m l σ H) (h : RepB T (wd Av r l σ H) l σ d v) (e : d.isTy t = some b) {Q : VK} (q : Q (.bl b) H) : rIsi X.K [v, .ty t.name] H Q := by
  obtain ⟨n, hn⟩ := isTy_name e
  exact ⟨v, .ty t.name, .type n, .type t.name, b, rfl, .ty _, by rw [hK]; exact tyx S h hn, kit_d e hn, q⟩
end
end Ev

set_option Elab.async false
set_option linter.all false
set_option maxRecDepth 100000
set_option maxHeartbeats 2000000
/-! Ev8: expressions, each by its parts. -/
namespace Ev
open PySem PySem.Spec PyProof.Rows L2

/-- what all contexts of one text share -/
structure Bs where
  P : Program
  w : World
  mg : Str → Option Value
  base : Heap
  T : Tx
structure InB (B : Bs) (X : Cx) : Prop where
  prog : X.prog = B.P
  w : X.w = B.w
  K : X.K = B.T.K
  mg : X.mg = B.mg
  base : X.base = B.base
/-- no exception leaves a def (as yet) -/
abbrev CXn : CXT := fun _ _ _ _ _ _ => False
abbrev E0n : XK := fun _ _ _ => False
theorem passn {X : Cx} : Passes CXn X E0n := fun _ _ _ _ _ _ _ h => h.elim

/-- a def's promise, by the evaluator -/
def spE (T : Tx) (cal : Nat → List D → Sto → Res D) (f : Nat) : Sp := fun vs H Q _ => ∃ (Av : Addr → Prop) (r : List Addr) (m : Sto) (ds : List D), SR T Av r m [] [] H ∧ Reps T (wd Av r [] [] H) ds vs ∧
  (match cal f ds m with
    | .ok d m' => ∀ r' H', SR T Av r' m' [] [] H' → Ext (wd Av r [] [] H) (wd Av r' [] [] H') → ∀ v, Rep T (wd Av r' [] [] H') d v → Q v H'
    | .exc _ _ => False
    | .bad => False)

/-- what is seen of an expression's letters -/
structure Lt (x : Expr) : Prop where
  star : ∀ env rest, starEach (x :: rest) env = (false, eval x env) :: starEach rest env
  plain : PlainIx x
  fold : ∀ env v, foldedSetIterable x env v = pure v
  beh : ∀ op, behindInMarks op x = false
structure SE (T : Tx) (cal : Nat → List D → Sto → Res D) (X : Cx) (e : E) (x : Expr) : Prop where
  p : PE X x (tE X T cal .p e)
  b : PE X x (tE X T cal .b e)
  t : PT X x (tT X T cal e)
  lt : Lt x

section
variable {X : Cx} {T : Tx} {cal : Nat → List D → Sto → Res D} {e : E} {x : Expr}
theorem toB (h : PE X x (tE X T cal .p e)) (he : ∀ l m, evM T.G cal e .b l m = evM T.G cal e .p l m) : PE X x (tE X T cal .b e) := by
  refine PE.imp h fun σ H Q q => ?_
  obtain ⟨Av, r, m, l, S, w⟩ := q
  refine ⟨Av, r, m, l, S, ?_⟩
  rw [← he]
  exact w.imp fun d m' r' H' _ S' x' hq v hv => hq v (.inl hv)
theorem toT (hK : X.K = T.K) (h : PE X x (tE X T cal .b e)) (he : ∀ whole, isTrue x X.env whole = (do let v ← whole; standAt x.pos; holding [v] (truthy v))) (ht : ∀ l m, evM T.G cal e .t l m = fin .t (evM T.G cal e .b l m)) : PT X x (tT X T cal e) := by
  refine PT.imp (pt_truth h he) fun σ H Q q => ?_
  obtain ⟨Av, r, m, l, S, w⟩ := q
  rw [ht] at w
  refine ⟨Av, r, m, l, S, ?_⟩
  refine (Wpe.bind w).imp fun d m' r' H' _ S' x' w2 v hv => ?_
  obtain ⟨k, e1, w3⟩ := Wpe.opt (Wpe.bind w2) S'
  exact ⟨k, Rep.truth S' hK hv e1, Wpe.ok w3 S' k rfl⟩
/-- an expression that is no name: by its plain value -/
theorem SE.of (hK : X.K = T.K) (h : PE X x (tE X T cal .p e)) (hb : ∀ l m, evM T.G cal e .b l m = evM T.G cal e .p l m) (he : ∀ whole, isTrue x X.env whole = (do let v ← whole; standAt x.pos; holding [v] (truthy v)))
    (ht : ∀ l m, evM T.G cal e .t l m = fin .t (evM T.G cal e .b l m)) (lt : Lt x) : SE T cal X e x := ⟨h, toB h hb, toT hK (toB h hb) he ht, lt⟩
end

section
variable {X : Cx} {T : Tx} {cal : Nat → List D → Sto → Res D}
/-! names, constants -/
theorem SR.sig {Av : Addr → Prop} {r : List Addr} {m : Sto} {l : Lo} {σ : L2.St} {H : Hp} (S : SR T Av r m l σ H) {i : Nat} {s : Sl} (e : l[i]? = some s) : ∃ o, σ[i]? = some o ∧ SlotOk T Av (wd Av r l σ H) s o := by
  have hl : i < σ.length := by
    have := (List.getElem?_eq_some_iff.mp e).1
    have := S.len
    omega
  exact ⟨σ[i], List.getElem?_eq_getElem hl, S.slot i s _ e (List.getElem?_eq_getElem hl)⟩
theorem se_var (hK : X.K = T.K) {i : Nat} {x : Str} {pos : Pos} (hN : X.N[i]? = some x) (hv : Vis X.env.scope x) (hd : (x == ("__debug__" : Str)) = false) (hcd : (x == ("__classdict__" : Str)) = false) : SE T cal X (.var i) (.Name x pos) := by
  have hp : PE X (.Name x pos) (tE X T cal .p (.var i)) := by
    refine PE.imp (pe_var (i := i) hN hv hd hcd) fun σ H Q q => ?_
    obtain ⟨Av, r, m, l, S, w⟩ := q
    obtain ⟨d, e1, w2⟩ := Wpe.opt (show Wpe X T Av (wd Av r l σ H) l σ (ofO (l[i]?.bind Sl.get1) m) _ from w) S
    obtain ⟨s, e2, e3⟩ := Option.bind_eq_some_iff.mp e1
    obtain ⟨o, e4, h⟩ := S.sig e2
    cases s with
    | val d' =>
      cases (show some d' = some d from e3)
      obtain ⟨v, rfl, hv⟩ := h
      exact ⟨v, e4, w2 v hv⟩
    | _ => cases e3
  have hb : PE X (.Name x pos) (tE X T cal .b (.var i)) := by
    refine PE.imp (pe_var (i := i) hN hv hd hcd) fun σ H Q q => ?_
    obtain ⟨Av, r, m, l, S, w⟩ := q
    obtain ⟨d, e1, w2⟩ := Wpe.opt (show Wpe X T Av (wd Av r l σ H) l σ (ofO (l[i]?.bind Sl.get) m) _ from w) S
    obtain ⟨s, e2, e3⟩ := Option.bind_eq_some_iff.mp e1
    obtain ⟨o, e4, h⟩ := S.sig e2
    cases s with
    | val d' =>
      cases (show some d' = some d from e3)
      obtain ⟨v, rfl, hv⟩ := h
      exact ⟨v, e4, w2 v (.inl hv)⟩
    | own xs =>
      cases (show some (D.lst xs) = some d from e3)
      obtain ⟨a, vs, rfl, _⟩ := h
      exact ⟨.ref a, e4, w2 _ (.inr ⟨i, xs, a, rfl, e2, e4, rfl⟩)⟩
    | no => cases e3
  exact ⟨hp, hb, toT hK hb (fun _ => rfl) (fun _ _ => rfl), ⟨fun _ _ => rfl, fun _ _ => rfl, fun _ _ => rfl, fun _ => rfl⟩⟩
theorem pe_const {x : Expr} {e : E} {d : D} {v : V} (h : PE X x (tC v)) (he : ∀ l m, evM T.G cal e .p l m = .ok d m) (hr : ∀ W, Rep T W d v) : PE X x (tE X T cal .p e) := by
  refine PE.imp h fun σ H Q q => ?_
  obtain ⟨Av, r, m, l, S, w⟩ := q
  rw [he] at w
  exact Wpe.ok w S v (hr _)
theorem lt_const {c : Const} {k : Nat} {pos : Pos} : Lt (.Constant c k pos) := ⟨fun _ _ => rfl, fun _ _ => rfl, fun _ _ => rfl, fun _ => rfl⟩
theorem se_int (hK : X.K = T.K) {i : Int} {k : Nat} {pos : Pos} : SE T cal X (.cst (.int i)) (.Constant (.int i) k pos) :=
  .of hK (pe_const pe_int (fun _ _ => rfl) fun _ => rfl) (fun _ _ => rfl) (fun _ => rfl) (fun _ _ => rfl) lt_const
theorem se_bool (hK : X.K = T.K) {i : Bool} {k : Nat} {pos : Pos} : SE T cal X (.cst (.bl i)) (.Constant (.bool i) k pos) :=
  .of hK (pe_const pe_bl (fun _ _ => rfl) fun _ => rfl) (fun _ _ => rfl) (fun _ => rfl) (fun _ _ => rfl) lt_const
theorem se_none (hK : X.K = T.K) {k : Nat} {pos : Pos} : SE T cal X (.cst .non) (.Constant .none k pos) :=
  .of hK (pe_const pe_non (fun _ _ => rfl) fun _ => rfl) (fun _ _ => rfl) (fun _ => rfl) (fun _ _ => rfl) lt_const
theorem se_str (hK : X.K = T.K) {i : Str} {k : Nat} {pos : Pos} : SE T cal X (.cst (.str i)) (.Constant (.str i) k pos) :=
  .of hK (pe_const pe_str (fun _ _ => rfl) fun _ => rfl) (fun _ _ => rfl) (fun _ => rfl) (fun _ _ => rfl) lt_const
theorem se_glb (hK : X.K = T.K) {j : Nat} {x : Str} {pos : Pos} {u : Value} {v : V} {d : D} (hg : Gl X x) (hm : X.mg x = some u) (r : RelV v u) (hc : T.G.cs[j]? = some d) (hr : ∀ W, Rep T W d v) (hd : (x == ("__debug__" : Str)) = false) : SE T cal X (.glb j) (.Name x pos) :=
  .of hK (pe_const (d := d) (pe_glob hg hm r hd) (fun l m => by show ofO T.G.cs[j]? m = _; rw [hc]; rfl) hr) (fun _ _ => rfl) (fun _ => rfl) (fun _ _ => rfl) ⟨fun _ _ => rfl, fun _ _ => rfl, fun _ _ => rfl, fun _ => rfl⟩

/-! lists of expressions -/
inductive SEs (T : Tx) (cal : Nat → List D → Sto → Res D) (X : Cx) : List E → List Expr → Prop
  | nil : SEs T cal X [] []
  | cons {e : E} {x : Expr} {es : List E} {xs : List Expr} : SE T cal X e x → SEs T cal X es xs → SEs T cal X (e :: es) (x :: xs)
theorem SEs.length : ∀ {es : List E} {xs : List Expr}, SEs T cal X es xs → es.length = xs.length
  | _, _, .nil => rfl
  | _, _, .cons _ t => by rw [List.length_cons, List.length_cons, t.length]
theorem RepM.ext {W W' : Wd} {l : Lo} {σ : L2.St} {md : Md} {d : D} {v : V} (x : Ext W W') (h : RepM T W l σ md d v) : RepM T W' l σ md d v := by
  cases md with
  | p => exact Rep.ext x d v h
  | b => exact RepB.ext x h
  | t => exact RepB.ext x h
theorem tL_cons {md : Md} {e : E} {es : List E} {σ : L2.St} {H : Hp} {Q : List V → Hp → Prop} (h : tL X T cal md (e :: es) σ H Q) : tE X T cal md e σ H fun v H1 => tL X T cal md es σ H1 fun vs H2 => Q (v :: vs) H2 := by
  obtain ⟨Av, r, m, l, S, w⟩ := h
  refine ⟨Av, r, m, l, S, ?_⟩
  have w' : Wpe X T Av (wd Av r l σ H) l σ ((evM T.G cal e md l m).bind fun x m => (evL T.G cal es md l m).bind fun xs m => .ok (x :: xs) m) _ := w
  refine (Wpe.bind w').imp fun d m1 r1 H1 _ S1 x1 w1 v hv => ?_
  refine ⟨Av, r1, m1, l, S1, ?_⟩
  refine (Wpe.bind w1).imp fun ds m2 r2 H2 _ S2 x2 w2 vs hvs => ?_
  exact Wpe.ok w2 S2 (v :: vs) ⟨v, vs, rfl, RepM.ext x2 hv, hvs⟩
theorem tL_nil {md : Md} {σ : L2.St} {H : Hp} {Q : List V → Hp → Prop} (h : tL X T cal md [] σ H Q) : Q [] H := by
  obtain ⟨Av, r, m, l, S, w⟩ := h
  exact Wpe.ok (show Wpe X T Av (wd Av r l σ H) l σ (.ok [] m) _ from w) S [] rfl
def SE.md {e : E} {x : Expr} (h : SE T cal X e x) (md : Md) (hm : md = .p ∨ md = .b) : PE X x (tE X T cal md e) := by
  cases md with
  | p => exact h.p
  | b => exact h.b
  | t => exact absurd hm (by simp)
theorem SEs.pa {md : Md} (hm : md = .p ∨ md = .b) : ∀ {es : List E} {xs : List Expr}, SEs T cal X es xs → PA X xs (tL X T cal md es)
  | _, _, .nil => PA.imp pa_nil fun σ H Q h => tL_nil h
  | _, _, .cons h t => PA.imp (pa_cons (h.md md hm) (SEs.pa hm t) (h.lt.star _ _)) fun σ H Q q => tL_cons q
theorem SEs.star : ∀ {es : List E} {xs : List Expr}, SEs T cal X es xs → ∀ env, (starEach xs env).any (·.1) = false
  | _, _, .nil, _ => rfl
  | _, _, .cons h t, env => by
    rw [h.lt.star]
    show (false || (starEach _ env).any (·.1)) = false
    rw [t.star env]
    rfl
theorem backTo_any (pos : Pos) : ∀ ts : List (Bool × Sem Value), (backTo pos ts).any (·.1) = ts.any (·.1)
  | [] => rfl
  | t :: ts => by
    show ((backTo pos [t] ++ backTo pos ts).any (·.1)) = _
    rw [List.any_append, backTo_any pos ts]
    simp [backTo]

/-! displays -/
theorem lt_other {x : Expr} (h1 : ∀ env rest, starEach (x :: rest) env = (false, eval x env) :: starEach rest env := by intros; rfl) (h2 : PlainIx x := by intro _ _; rfl) (h3 : ∀ env v, foldedSetIterable x env v = pure v := by intros; rfl) (h4 : ∀ op, behindInMarks op x = false := by intro _; rfl) : Lt x := ⟨h1, h2, h3, h4⟩
theorem se_tup (hK : X.K = T.K) {es : List E} {xs : List Expr} {k : Nat} {pos : Pos} (h : SEs T cal X es xs) : SE T cal X (.tup es) (.Tuple xs k pos) := by
  refine .of hK (PE.imp (pe_tup (h.pa (.inl rfl))) fun σ H Q q => ?_) (fun _ _ => rfl) (fun _ => rfl) (fun _ _ => rfl) lt_other
  obtain ⟨Av, r, m, l, S, w⟩ := q
  refine ⟨Av, r, m, l, S, ?_⟩
  have w' : Wpe X T Av (wd Av r l σ H) l σ ((evL T.G cal es .p l m).bind fun xs m => if xs.length ≤ sizeLine then Res.ok (D.tup xs) m else Res.bad) _ := w
  refine (Wpe.bind w').imp fun ds m1 r1 H1 _ S1 x1 w1 vs hvs => ?_
  have hr := RepsM.reps hvs
  split at w1
  · rename_i hl
    exact ⟨by rw [← hr.length]; exact hl, fun p hp => Wpe.okE w1 (S1.new hp) (Ext.new S1 hp) _ (Rep.newTup S1 hp hr)⟩
  · exact w1.elim
theorem se_lst (hK : X.K = T.K) {es : List E} {xs : List Expr} {pos : Pos} (h : SEs T cal X es xs) : SE T cal X (.lst es) (.List xs pos) := by
  refine .of hK (PE.imp (pe_lst (h.pa (.inl rfl))) fun σ H Q q => ?_) (fun _ _ => rfl) (fun _ => rfl) (fun _ _ => rfl) lt_other
  obtain ⟨Av, r, m, l, S, w⟩ := q
  refine ⟨Av, r, m, l, S, ?_⟩
  have w' : Wpe X T Av (wd Av r l σ H) l σ ((evL T.G cal es .p l m).bind fun xs m => if xs.length ≤ sizeLine then Res.ok (D.lst xs) m else Res.bad) _ := w
  refine (Wpe.bind w').imp fun ds m1 r1 H1 _ S1 x1 w1 vs hvs => ?_
  have hr := RepsM.reps hvs
  split at w1
  · rename_i hl
    exact ⟨by rw [← hr.length]; exact hl, fun p hp => Wpe.okE w1 (S1.new hp) (Ext.new S1 hp) _ (Rep.newLst S1 hp hr)⟩
  · exact w1.elim
/-- a new location -/
theorem newLoc {Av : Addr → Prop} {r : List Addr} {m : Sto} {l : Lo} {σ : L2.St} {H : Hp} (S : SR T Av r m l σ H) {p : Addr} {xs : List D} {vs : List V} (hp : H p = none) (hr : Reps T (wd Av r l σ H) xs vs) :
    SR T Av (r ++ [p]) (m ++ [.lst xs]) l σ (upd H p (.lst vs)) ∧ Ext (wd Av r l σ H) (wd Av (r ++ [p]) l σ (upd H p (.lst vs))) ∧ Rep T (wd Av (r ++ [p]) l σ (upd H p (.lst vs))) (.loc m.length) (.ref p) := by
  have ne : ∀ a u, H a = some u → a ≠ p := fun a u h e => by rw [e, hp] at h; cases h
  have x : Ext (wd Av r l σ H) (wd Av (r ++ [p]) l σ (upd H p (.lst vs))) := by
    refine ⟨fun a u h _ => ?_, fun a u h n z => ?_, fun a u h n z => ?_, fun n a h => ?_, fun a u h => ⟨u, ?_⟩⟩
    · show upd H p _ a = some u
      rw [upd_ne (ne a u h)]
      exact h
    · rcases z with z | z
      · rcases List.mem_append.mp z with z | z
        · exact n (.inl z)
        · exact ne a u h (List.mem_singleton.mp z)
      · exact n (.inr z)
    · rcases z with z | z | z
      · exact n (.inl z)
      · rcases List.mem_append.mp z with z | z
        · exact n (.inr (.inl z))
        · exact ne a u h (List.mem_singleton.mp z)
      · exact n (.inr (.inr z))
    · have h : r[n]? = some a := h
      have hlt := (List.getElem?_eq_some_iff.mp h).1
      show (r ++ [p])[n]? = some a
      rw [List.getElem?_append_left hlt]
      exact h
    · show upd H p _ a = some u
      rw [upd_ne (ne a u h)]
      exact h
  refine ⟨⟨S.len, fun a ha => ?_, by rw [List.length_append, List.length_append, S.mlen]; rfl, ?_, fun a ha z => ?_, fun n ys a e1 e2 => ?_, fun i s o e1 e2 => ?_, S.inj⟩, x, p, rfl, ?_⟩
  · by_cases e : a = p
    · rw [e, upd_same]; simp
    · rw [upd_ne e]; exact S.alv a ha
  · refine List.nodup_append.mpr ⟨S.nd, by simp, fun a ha b hb e => ?_⟩
    obtain ⟨us, hu⟩ := S.loc_at ha
    rw [e, List.mem_singleton.mp hb, hp] at hu
    cases hu
  · rcases List.mem_append.mp ha with ha | ha
    · exact S.rAv a ha z
    · rw [List.mem_singleton.mp ha] at z
      exact S.alv p z hp
  · by_cases hn : n < m.length
    · rw [List.getElem?_append_left hn] at e1
      rw [List.getElem?_append_left (by rw [S.mlen]; exact hn)] at e2
      obtain ⟨us, h1, h2⟩ := S.mem n ys a e1 e2
      exact ⟨us, by rw [upd_ne (ne a _ h1)]; exact h1, Reps.ext x ys us h2⟩
    · rw [List.getElem?_append_right (by omega)] at e1
      rw [List.getElem?_append_right (by rw [S.mlen]; omega)] at e2
      have hz : n - m.length = 0 := by
        have := (List.getElem?_eq_some_iff.mp e1).1
        simp at this
        omega
      rw [hz] at e1
      rw [S.mlen, hz] at e2
      cases e1
      cases e2
      exact ⟨vs, upd_same, Reps.ext x xs vs hr⟩
  · refine SlotOk.ext x (fun a h ⟨o, ho⟩ z => ?_) (fun ys a us _ _ _ h => ?_) (S.slot i s o e1 e2)
    · rcases List.mem_append.mp z with z | z
      · exact h z
      · exact ne a o ho (List.mem_singleton.mp z)
    · show upd H p _ a = _
      rw [upd_ne (ne a _ h)]
      exact h
  · show (r ++ [p])[m.length]? = some p
    rw [List.getElem?_append_right (by rw [S.mlen]; exact Nat.le_refl _), S.mlen]
    simp
theorem se_mls (hK : X.K = T.K) {es : List E} {xs : List Expr} {pos : Pos} (h : SEs T cal X es xs) : SE T cal X (.mls es) (.List xs pos) := by
  refine .of hK (PE.imp (pe_lst (h.pa (.inl rfl))) fun σ H Q q => ?_) (fun _ _ => rfl) (fun _ => rfl) (fun _ _ => rfl) lt_other
  obtain ⟨Av, r, m, l, S, w⟩ := q
  refine ⟨Av, r, m, l, S, ?_⟩
  have w' : Wpe X T Av (wd Av r l σ H) l σ ((evL T.G cal es .p l m).bind fun xs m => if xs.length ≤ sizeLine then Res.ok (D.loc m.length) (m ++ [MO.lst xs]) else Res.bad) _ := w
  refine (Wpe.bind w').imp fun ds m1 r1 H1 _ S1 x1 w1 vs hvs => ?_
  have hr := RepsM.reps hvs
  split at w1
  · rename_i hl
    refine ⟨by rw [← hr.length]; exact hl, fun p hp => ?_⟩
    obtain ⟨S2, x2, r2⟩ := newLoc S1 hp hr
    exact Wpe.okE w1 S2 x2 _ r2
  · exact w1.elim

/-! operators -/
theorem se_bin (hK : X.K = T.K) {op : Operator} {a b : E} {x y : Expr} {pos : Pos} (ho : (match op with
    | .MatMult => false
    | .Div => false
    | .LShift => false
    | .RShift => false
    | _ => true) = true) (ha : SE T cal X a x) (hb : SE T cal X b y) : SE T cal X (.bin op a b) (.BinOp x op y pos) := by
  obtain ⟨rr, h1, h2⟩ := bin_any (X := X) (T := T) hK op ho
  refine .of hK (PE.imp (pe_op h1 ha.b hb.b) fun σ H Q q => ?_) (fun _ _ => rfl) (fun _ => rfl) (fun _ _ => rfl) lt_other
  obtain ⟨Av, r, m, l, S, w⟩ := q
  refine ⟨Av, r, m, l, S, ?_⟩
  have w' : Wpe X T Av (wd Av r l σ H) l σ ((evM T.G cal a .b l m).bind fun x m => (evM T.G cal b .b l m).bind fun y m => ofO (dBin op x y) m) _ := w
  refine (Wpe.bind w').imp fun d m1 r1 H1 _ S1 x1 w1 v hv => ?_
  refine ⟨Av, r1, m1, l, S1, ?_⟩
  refine (Wpe.bind w1).imp fun d2 m2 r2 H2 _ S2 x2 w2 u hu => ?_
  obtain ⟨z, e1, w3⟩ := Wpe.optE w2
  exact h2 S2 (RepB.ext x2 hv) hu e1 Q fun w' H' S' x' hw => w3 r2 H' S' x' w' hw
theorem se_neg (hK : X.K = T.K) {a : E} {x : Expr} {pos : Pos} (ha : SE T cal X a x) : SE T cal X (.neg a) (.UnaryOp .USub x pos) := by
  refine .of hK (PE.imp (pe_un un_neg ha.p) fun σ H Q q => ?_) (fun _ _ => rfl) (fun _ => rfl) (fun _ _ => rfl) lt_other
  obtain ⟨Av, r, m, l, S, w⟩ := q
  refine ⟨Av, r, m, l, S, ?_⟩
  have w' : Wpe X T Av (wd Av r l σ H) l σ ((evM T.G cal a .p l m).bind fun x m => match x with
    | .int i => Res.ok (D.int (-i)) m
    | _ => Res.bad) _ := w
  refine (Wpe.bind w').imp fun d m1 r1 H1 _ S1 x1 w1 v hv => ?_
  cases d with
  | int i => exact ⟨i, hv, Wpe.ok w1 S1 _ rfl⟩
  | _ => exact w1.elim
theorem se_nt (hK : X.K = T.K) {a : E} {x : Expr} {pos : Pos} (ha : SE T cal X a x) : SE T cal X (.nt a) (.UnaryOp .Not x pos) := by
  have hp : PE X (.UnaryOp .Not x pos) (tE X T cal .p (.nt a)) := by
    refine PE.imp (pe_notT ha.b) fun σ H Q q => ?_
    obtain ⟨Av, r, m, l, S, w⟩ := q
    refine ⟨Av, r, m, l, S, ?_⟩
    have w' : Wpe X T Av (wd Av r l σ H) l σ ((evM T.G cal a .b l m).bind fun x m => (ofO (x.tr m) m).bind fun b m => Res.ok (D.bl (!b)) m) _ := w
    refine (Wpe.bind w').imp fun d m1 r1 H1 _ S1 x1 w1 v hv => ?_
    obtain ⟨k, e1, w2⟩ := Wpe.opt (Wpe.bind w1) S1
    exact ⟨k, Rep.truth S1 hK hv e1, Wpe.ok w2 S1 _ rfl⟩
  refine ⟨hp, toB hp fun _ _ => rfl, PT.imp (pt_not ha.t) fun σ H Q q => ?_, lt_other⟩
  obtain ⟨Av, r, m, l, S, w⟩ := q
  refine ⟨Av, r, m, l, S, ?_⟩
  have w' : Wpe X T Av (wd Av r l σ H) l σ ((evM T.G cal a .t l m).bind fun x m => match x with
    | .bl b => Res.ok (D.bl (!b)) m
    | _ => Res.bad) _ := w
  refine (Wpe.bind w').imp fun d m1 r1 H1 _ S1 x1 w1 b hb => ?_
  subst hb
  exact Wpe.ok w1 S1 _ rfl
theorem se_cmp (hK : X.K = T.K) (hu : X.A.units + 65 < cLine) {op : CmpOp} {a b : E} {x y : Expr} {pos : Pos} (ha : SE T cal X a x) (hb : SE T cal X b y) : SE T cal X (.cmp op a b) (.Compare x [op] [y] pos) := by
  obtain ⟨rr, h1, h2⟩ := cmp_any (X := X) (T := T) hK hu op
  have go : ∀ {σ : L2.St} {H : Hp} {P : PP D} {Av : Addr → Prop} {r : List Addr} {m : Sto} {l : Lo} {Q : VK}, SR T Av r m l σ H → Wpe X T Av (wd Av r l σ H) l σ ((evM T.G cal a .b l m).bind fun x m => (evM T.G cal b .b l m).bind fun y m => (ofO (dCmp op x y) m).bind fun b m => Res.ok (D.bl b) m) P →
      (∀ b m r H, SR T Av r m l σ H → P (.bl b) m r H → Q (.bl b) H) → tOp rr (tE X T cal .b a) (tE X T cal .b b) σ H Q := by
    intro σ H P Av r m l Q S w hQ
    refine ⟨Av, r, m, l, S, ?_⟩
    refine (Wpe.bind w).imp fun d m1 r1 H1 _ S1 x1 w1 v hv => ?_
    refine ⟨Av, r1, m1, l, S1, ?_⟩
    refine (Wpe.bind w1).imp fun d2 m2 r2 H2 _ S2 x2 w2 u hu => ?_
    obtain ⟨z, e1, w3⟩ := Wpe.opt (Wpe.bind w2) S2
    exact h2 S2 (RepB.ext x2 hv) hu e1 Q (hQ z m2 r2 H2 S2 (Wpe.ok w3 S2))
  have hp : PE X (.Compare x [op] [y] pos) (tE X T cal .p (.cmp op a b)) := by
    refine PE.imp (pe_cmpR h1 ha.b hb.b (hb.lt.beh op)) fun σ H Q q => ?_
    obtain ⟨Av, r, m, l, S, w⟩ := q
    exact go S w fun b m r H S h => h _ rfl
  refine ⟨hp, toB hp fun _ _ => rfl, PT.imp (pt_cmpR h1 ha.b hb.b (hb.lt.beh op)) fun σ H Q q => ?_, lt_other⟩
  obtain ⟨Av, r, m, l, S, w⟩ := q
  exact go (Q := fun x H' => ∃ k, x = .bl k ∧ Q k H') S w fun b m r H S h => ⟨b, rfl, h b rfl⟩
theorem se_chain (hK : X.K = T.K) (hu : X.A.units + 65 < cLine) {op op2 : CmpOp} {a b c : E} {x y z : Expr} {pos : Pos} (ha : SE T cal X a x) (hb : SE T cal X b y) (hc : SE T cal X c z) : SE T cal X (.chain op op2 a b c) (.Compare x [op, op2] [y, z] pos) := by
  obtain ⟨rr, h1, h2⟩ := cmp_any (X := X) (T := T) hK hu op
  obtain ⟨rr2, h3, h4⟩ := cmp_any (X := X) (T := T) hK hu op2
  have hm : lastMarks [op, op2] [y, z] = false := hc.lt.beh op2
  have go : ∀ {σ : L2.St} {H : Hp} {P : PP D} {Av : Addr → Prop} {r : List Addr} {m : Sto} {l : Lo} {Q : VK}, SR T Av r m l σ H → Wpe X T Av (wd Av r l σ H) l σ ((evM T.G cal a .b l m).bind fun x m => (evM T.G cal b .b l m).bind fun y m => (ofO (dCmp op x y) m).bind fun k m =>
      if k then (evM T.G cal c .b l m).bind fun z m => (ofO (dCmp op2 y z) m).bind fun k m => Res.ok (D.bl k) m else Res.ok (D.bl false) m) P →
      (∀ b m r H, SR T Av r m l σ H → P (.bl b) m r H → Q (.bl b) H) → tChain rr rr2 (tE X T cal .b a) (tE X T cal .b b) (tE X T cal .b c) σ H Q := by
    intro σ H P Av r m l Q S w hQ
    refine ⟨Av, r, m, l, S, ?_⟩
    refine (Wpe.bind w).imp fun d m1 r1 H1 _ S1 x1 w1 v hv => ?_
    refine ⟨Av, r1, m1, l, S1, ?_⟩
    refine (Wpe.bind w1).imp fun d2 m2 r2 H2 _ S2 x2 w2 u hu => ?_
    obtain ⟨k, e1, w3⟩ := Wpe.opt (Wpe.bind w2) S2
    refine h2 S2 (RepB.ext x2 hv) hu e1 (fun z H3 => ∃ k, z = V.bl k ∧ (if k = true then tE X T cal .b c σ H3 fun w' H4 => rr2 u w' H4 Q else Q (.bl false) H3)) ⟨k, rfl, ?_⟩
    cases k with
    | false =>
      rw [if_neg Bool.false_ne_true]
      exact hQ false m2 r2 H2 S2 (Wpe.ok (show Wpe X T Av (wd Av r2 l σ H2) l σ (Res.ok (D.bl false) m2) P from w3) S2)
    | true =>
      rw [if_pos rfl]
      refine ⟨Av, r2, m2, l, S2, ?_⟩
      have w3' : Wpe X T Av (wd Av r2 l σ H2) l σ ((evM T.G cal c .b l m2).bind fun z m => (ofO (dCmp op2 d2 z) m).bind fun k m => Res.ok (D.bl k) m) P := w3
      refine (Wpe.bind w3').imp fun d3 m3 r3 H3 _ S3 x3 w4 w' hw => ?_
      obtain ⟨k2, e2, w5⟩ := Wpe.opt (Wpe.bind w4) S3
      exact h4 S3 (RepB.ext x3 hu) hw e2 Q (hQ k2 m3 r3 H3 S3 (Wpe.ok w5 S3))
  have hp : PE X (.Compare x [op, op2] [y, z] pos) (tE X T cal .p (.chain op op2 a b c)) := by
    refine PE.imp (pe_chain h1 h3 ha.b hb.b hc.b hm) fun σ H Q q => ?_
    obtain ⟨Av, r, m, l, S, w⟩ := q
    exact go S w fun b m r H S h => h _ rfl
  refine ⟨hp, toB hp fun _ _ => rfl, PT.imp (pt_chain h1 h3 ha.b hb.b hc.b hm) fun σ H Q q => ?_, lt_other⟩
  obtain ⟨Av, r, m, l, S, w⟩ := q
  exact go (Q := fun x H' => ∃ k, x = .bl k ∧ Q k H') S w fun b m r H S h => ⟨b, rfl, h b rfl⟩
end
end Ev

set_option Elab.async false
set_option linter.all false
set_option maxRecDepth 100000
set_option maxHeartbeats 2000000
/-! Ev9: expressions, each by its parts: and, or, if, items, fields, calls. -/
namespace Ev
open PySem PySem.Spec PyProof.Rows L2

def boolOpOf (b : Bool) : BoolOp := if b then .And else .Or
section
variable {X : Cx} {T : Tx} {cal : Nat → List D → Sto → Res D}
/-! and, or -/
def tBo (X : Cx) (T : Tx) (cal : Nat → List D → Sto → Res D) (and : Bool) (es : List E) : TE := fun σ H Q => ∃ (Av : Addr → Prop) (r : List Addr) (m : Sto) (l : Lo), SR T Av r m l σ H ∧
  Wpe X T Av (wd Av r l σ H) l σ (evBo T.G cal and es l m) fun d m' r' H' => ∀ v, Rep T (wd Av r' l σ H') d v → Q v H'
def tTs (X : Cx) (T : Tx) (cal : Nat → List D → Sto → Res D) (and : Bool) (es : List E) : TT := fun σ H Q => ∃ (Av : Addr → Prop) (r : List Addr) (m : Sto) (l : Lo), SR T Av r m l σ H ∧
  Wpe X T Av (wd Av r l σ H) l σ (evTs T.G cal and es l m) fun d m' r' H' => ∀ b, d = .bl b → Q b H'
theorem bo_pe (hK : X.K = T.K) {and : Bool} {pos : Pos} : ∀ {es : List E} {xs : List Expr}, SEs T cal X es xs → es ≠ [] → PE X (.BoolOp (boolOpOf and) xs pos) (tBo X T cal and es)
  | _, _, .nil, h => absurd rfl h
  | [e], [x], .cons h .nil, _ => PE.imp (pe_one h.p) fun σ H Q q => q
  | e :: e2 :: es, x :: x2 :: xs, .cons h (.cons h2 t), _ => by
    have ih := bo_pe hK (and := and) (pos := pos) (.cons h2 t) (List.cons_ne_nil _ _)
    have step : ∀ {σ : L2.St} {H : Hp} {Q : VK}, tBo X T cal and (e :: e2 :: es) σ H Q → tE X T cal .p e σ H fun v H1 => ∃ k, TruV X.K v H1 k ∧ if (k == and) = true then tBo X T cal and (e2 :: es) σ H1 Q else Q v H1 := by
      intro σ H Q q
      obtain ⟨Av, r, m, l, S, w⟩ := q
      refine ⟨Av, r, m, l, S, ?_⟩
      have w' : Wpe X T Av (wd Av r l σ H) l σ ((evM T.G cal e .p l m).bind fun x m => (ofO (x.tr m) m).bind fun k m => if k == and then evBo T.G cal and (e2 :: es) l m else Res.ok x m) _ := w
      refine (Wpe.bind w').imp fun d m1 r1 H1 _ S1 x1 w1 v hv => ?_
      obtain ⟨k, e1, w2⟩ := Wpe.opt (Wpe.bind w1) S1
      refine ⟨k, Rep.truth S1 hK (.inl hv) e1, ?_⟩
      by_cases c : (k == and) = true
      · rw [if_pos c] at w2 ⊢
        exact ⟨Av, r1, m1, l, S1, w2⟩
      · rw [if_neg c] at w2 ⊢
        exact Wpe.ok w2 S1 v hv
    cases and with
    | true =>
      refine PE.imp (pe_andT h.p ih) fun σ H Q q => ?_
      obtain ⟨Av, r, m, l, S, w⟩ := step q
      refine ⟨Av, r, m, l, S, w.imp fun d m1 r1 H1 _ S1 x1 w1 v hv => ?_⟩
      obtain ⟨k, h1, h2⟩ := w1 v hv
      refine ⟨k, h1, ?_⟩
      cases k with
      | true => exact h2
      | false => exact h2
    | false =>
      refine PE.imp (pe_orT h.p ih) fun σ H Q q => ?_
      obtain ⟨Av, r, m, l, S, w⟩ := step q
      refine ⟨Av, r, m, l, S, w.imp fun d m1 r1 H1 _ S1 x1 w1 v hv => ?_⟩
      obtain ⟨k, h1, h2⟩ := w1 v hv
      refine ⟨k, h1, ?_⟩
      cases k with
      | true => exact h2
      | false => exact h2
theorem ts_pw {and : Bool} {pos : Pos} : ∀ {es : List E} {xs : List Expr}, SEs T cal X es xs → es ≠ [] → PW X (.BoolOp (boolOpOf and) xs pos) (tTs X T cal and es)
  | _, _, .nil, h => absurd rfl h
  | [e], [x], .cons h .nil, _ => by
    have step : ∀ {σ : L2.St} {H : Hp} {Q : Bool → Hp → Prop}, tTs X T cal and [e] σ H Q → tT X T cal e σ H Q := by
      intro σ H Q q
      obtain ⟨Av, r, m, l, S, w⟩ := q
      refine ⟨Av, r, m, l, S, ?_⟩
      have w' : Wpe X T Av (wd Av r l σ H) l σ ((evM T.G cal e .t l m).bind fun k m => match k with
        | .bl k => if k == and then Res.ok (D.bl and) m else Res.ok (D.bl k) m
        | _ => Res.bad) _ := w
      refine (Wpe.bind w').imp fun d m1 r1 H1 _ S1 x1 w1 b hb => ?_
      subst hb
      have w2 : Wpe X T Av (wd Av r1 l σ H1) l σ (if b == and then Res.ok (D.bl and) m1 else Res.ok (D.bl b) m1) _ := w1
      by_cases c : (b == and) = true
      · rw [if_pos c] at w2
        rw [eq_of_beq c]
        exact Wpe.ok w2 S1 _ rfl
      · rw [if_neg c] at w2
        exact Wpe.ok w2 S1 _ rfl
    cases and with
    | true => exact PW.imp (pw_and1 h.t) fun σ H Q q => step q
    | false => exact PW.imp (pw_or1 h.t) fun σ H Q q => step q
  | e :: e2 :: es, x :: x2 :: xs, .cons h (.cons h2 t), _ => by
    have ih := ts_pw (and := and) (pos := pos) (.cons h2 t) (List.cons_ne_nil _ _)
    have step : ∀ {σ : L2.St} {H : Hp} {Q : Bool → Hp → Prop}, tTs X T cal and (e :: e2 :: es) σ H Q → tT X T cal e σ H fun k H1 => if (k == and) = true then tTs X T cal and (e2 :: es) σ H1 Q else Q k H1 := by
      intro σ H Q q
      obtain ⟨Av, r, m, l, S, w⟩ := q
      refine ⟨Av, r, m, l, S, ?_⟩
      have w' : Wpe X T Av (wd Av r l σ H) l σ ((evM T.G cal e .t l m).bind fun k m => match k with
        | .bl k => if k == and then evTs T.G cal and (e2 :: es) l m else Res.ok (D.bl k) m
        | _ => Res.bad) _ := w
      refine (Wpe.bind w').imp fun d m1 r1 H1 _ S1 x1 w1 b hb => ?_
      subst hb
      have w2 : Wpe X T Av (wd Av r1 l σ H1) l σ (if b == and then evTs T.G cal and (e2 :: es) l m1 else Res.ok (D.bl b) m1) _ := w1
      by_cases c : (b == and) = true
      · rw [if_pos c] at w2 ⊢
        exact ⟨Av, r1, m1, l, S1, w2⟩
      · rw [if_neg c] at w2 ⊢
        exact Wpe.ok w2 S1 _ rfl
    cases and with
    | true =>
      refine PW.imp (pw_and h.t ih) fun σ H Q q => ?_
      obtain ⟨Av, r, m, l, S, w⟩ := step q
      refine ⟨Av, r, m, l, S, w.imp fun d m1 r1 H1 _ S1 x1 w1 b hb => ?_⟩
      have h2 := w1 b hb
      cases b with
      | true => exact h2
      | false => exact h2
    | false =>
      refine PW.imp (pw_or h.t ih) fun σ H Q q => ?_
      obtain ⟨Av, r, m, l, S, w⟩ := step q
      refine ⟨Av, r, m, l, S, w.imp fun d m1 r1 H1 _ S1 x1 w1 b hb => ?_⟩
      have h2 := w1 b hb
      cases b with
      | true => exact h2
      | false => exact h2
theorem se_boolop (hK : X.K = T.K) {and : Bool} {es : List E} {xs : List Expr} {pos : Pos} (h : SEs T cal X es xs) (hn : es ≠ []) : SE T cal X (.bool and es) (.BoolOp (boolOpOf and) xs pos) := by
  have hp : PE X (.BoolOp (boolOpOf and) xs pos) (tE X T cal .p (.bool and es)) := PE.imp (bo_pe hK h hn) fun σ H Q q => q
  exact ⟨hp, toB hp fun _ _ => rfl, PT.imp (ts_pw h hn).pt fun σ H Q q => q, lt_other⟩

/-! if -/
theorem isTrue_ite {c x y : Expr} {pos : Pos} : True := trivial
theorem pt_none {x : Expr} {e : E} (h : ∀ l m, evM T.G cal e .t l m = .bad) : PT X x (tT X T cal e) := ⟨fun pins s σ H Q I q => by
  obtain ⟨Av, r, m, l, S, w⟩ := q
  rw [h] at w
  exact w.elim⟩
theorem se_ite {c a b : E} {x y z : Expr} {pos : Pos} (hc : SE T cal X c x) (ha : SE T cal X a y) (hb : SE T cal X b z) : SE T cal X (.ite c a b) (.IfExp x y z pos) := by
  have hp : PE X (.IfExp x y z pos) (tE X T cal .p (.ite c a b)) := by
    refine PE.imp (pe_ifExp hc.t ha.p hb.p) fun σ H Q q => ?_
    obtain ⟨Av, r, m, l, S, w⟩ := q
    refine ⟨Av, r, m, l, S, ?_⟩
    have w' : Wpe X T Av (wd Av r l σ H) l σ ((evM T.G cal c .t l m).bind fun k m => match k with
      | .bl true => evM T.G cal a .p l m
      | .bl false => evM T.G cal b .p l m
      | _ => Res.bad) _ := w
    refine (Wpe.bind w').imp fun d m1 r1 H1 _ S1 x1 w1 k hk => ?_
    subst hk
    cases k with
    | true => exact ⟨Av, r1, m1, l, S1, w1⟩
    | false => exact ⟨Av, r1, m1, l, S1, w1⟩
  exact ⟨hp, toB hp fun _ _ => rfl, pt_none fun _ _ => rfl, lt_other⟩

/-! items -/
theorem se_idx (hK : X.K = T.K) {a i : E} {x y : Expr} {pos : Pos} (ha : SE T cal X a x) (hi : SE T cal X i y) : SE T cal X (.idx a i) (.Subscript x y pos) := by
  refine .of hK (PE.imp (pe_ix (ix_seq (X := X)) ha.b hi.p hi.lt.plain) fun σ H Q q => ?_) (fun _ _ => rfl) (fun _ => rfl) (fun _ _ => rfl) lt_other
  obtain ⟨Av, r, m, l, S, w⟩ := q
  refine ⟨Av, r, m, l, S, ?_⟩
  have w' : Wpe X T Av (wd Av r l σ H) l σ ((evM T.G cal a .b l m).bind fun x m => (evM T.G cal i .p l m).bind fun y m => ofO (dIdx m x y) m) _ := w
  refine (Wpe.bind w').imp fun d m1 r1 H1 _ S1 x1 w1 v hv => ?_
  refine ⟨Av, r1, m1, l, S1, ?_⟩
  refine (Wpe.bind w1).imp fun d2 m2 r2 H2 _ S2 x2 w2 u hu => ?_
  obtain ⟨z, e1, w3⟩ := Wpe.opt w2 S2
  exact ix_ok hK S2 (RepB.ext x2 hv) hu e1 fun w' hw => w3 w' hw
/-- a slice's part -/
inductive SEo (T : Tx) (cal : Nat → List D → Sto → Res D) (X : Cx) : List E → Option Expr → Prop
  | no : SEo T cal X [] none
  | so {e : E} {x : Expr} : SE T cal X e x → SEo T cal X [e] (some x)
def tO (X : Cx) (T : Tx) (cal : Nat → List D → Sto → Res D) (es : List E) : TO := fun σ H Q => ∃ (Av : Addr → Prop) (r : List Addr) (m : Sto) (l : Lo), SR T Av r m l σ H ∧
  Wpe X T Av (wd Av r l σ H) l σ ((evL T.G cal es .p l m).bind fun u m => ofO (partOf u) m) fun o m' r' H' => Q o H'
theorem PO.imp {e : Option Expr} {t t' : TO} (h : PO X e t) (i : ∀ σ H Q, t' σ H Q → t σ H Q) : PO X e t' := ⟨fun pins s σ H Q I hq => h.run pins s σ H Q I (i σ H Q hq)⟩
theorem SEo.po {es : List E} {x : Option Expr} (h : SEo T cal X es x) : PO X x (tO X T cal es) := by
  cases h with
  | no =>
    refine PO.imp po_none fun σ H Q q => ?_
    obtain ⟨Av, r, m, l, S, w⟩ := q
    exact Wpe.ok (show Wpe X T Av (wd Av r l σ H) l σ (Res.ok none m) _ from w) S
  | so h =>
    rename_i e x
    refine PO.imp (po_some h.p) fun σ H Q q => ?_
    obtain ⟨Av, r, m, l, S, w⟩ := q
    refine ⟨Av, r, m, l, S, ?_⟩
    have w' : Wpe X T Av (wd Av r l σ H) l σ (((evM T.G cal e .p l m).bind fun x m => Res.ok [x] m).bind fun u m => ofO (partOf u) m) _ := w
    have e1 : (((evM T.G cal e .p l m).bind fun x m => Res.ok [x] m).bind fun u m => ofO (partOf u) m) = (evM T.G cal e .p l m).bind fun x m => ofO (partOf [x]) m := by
      cases evM T.G cal e .p l m <;> rfl
    rw [e1] at w'
    refine (Wpe.bind w').imp fun d m1 r1 H1 _ S1 x1 w1 v hv => ?_
    obtain ⟨o, e2, w2⟩ := Wpe.opt w1 S1
    cases d with
    | int i =>
      cases (show some (some i) = some o from e2)
      exact ⟨i, hv, w2⟩
    | _ => cases e2
theorem bind_assoc3 {α β γ : Type} (q : Res α) (f : α → Sto → Res β) (g : β → Sto → Res γ) : (q.bind f).bind g = q.bind fun a m => (f a m).bind g := by cases q <;> rfl
theorem se_slc (hK : X.K = T.K) {a : E} {lo hi : List E} {x : Expr} {u v : Option Expr} {p2 pos : Pos} (ha : SE T cal X a x) (hl : SEo T cal X lo u) (hh : SEo T cal X hi v) : SE T cal X (.slc a lo hi) (.Subscript x (.Slice u v none p2) pos) := by
  refine .of hK (PE.imp (pe_slice ((sl_tupA (X := X)).or (sl_list (X := X))) ha.b hl.po hh.po) fun σ H Q q => ?_) (fun _ _ => rfl) (fun _ => rfl) (fun _ _ => rfl) lt_other
  obtain ⟨Av, r, m, l, S, w⟩ := q
  refine ⟨Av, r, m, l, S, ?_⟩
  have w' : Wpe X T Av (wd Av r l σ H) l σ ((evM T.G cal a .b l m).bind fun x m => (evL T.G cal lo .p l m).bind fun u m => (ofO (partOf u) m).bind fun o m => (evL T.G cal hi .p l m).bind fun v m => (ofO (partOf v) m).bind fun o2 m => ofO (dSlc x o o2) m) _ := w
  refine (Wpe.bind w').imp fun d m1 r1 H1 _ S1 x1 w1 v hv => ?_
  refine ⟨Av, r1, m1, l, S1, ?_⟩
  rw [← bind_assoc3] at w1
  refine (Wpe.bind w1).imp fun o m2 r2 H2 _ S2 x2 w2 => ?_
  refine ⟨Av, r2, m2, l, S2, ?_⟩
  rw [← bind_assoc3] at w2
  refine (Wpe.bind w2).imp fun o2 m3 r3 H3 _ S3 x3 w3 => ?_
  obtain ⟨z, e1, w4⟩ := Wpe.optE w3
  exact sl_ok hK S3 (RepB.ext (x2.trans x3) hv) e1 fun w' H' S' x' hw => w4 r3 H' S' x' w' hw

/-! fields -/
theorem lookup_zip {W : Wd} {f : Str} {d : D} : ∀ {ns : List Str} {xs : List D} {vs : List V}, Reps T W xs vs → (ns.zip xs).lookup f = some d → ∃ v, (ns.zip vs).lookup f = some v ∧ Rep T W d v
  | [], _, _, _, e => by simp at e
  | _ :: _, [], _, _, e => by simp at e
  | n :: ns, x :: xs, _, h, e => by
    obtain ⟨v, r, rfl, h1, h2⟩ := h
    rw [List.zip_cons_cons, List.lookup_cons] at e
    rw [List.zip_cons_cons, List.lookup_cons]
    cases c : f == n with
    | true =>
      rw [c] at e
      cases e
      exact ⟨v, rfl, h1⟩
    | false =>
      rw [c] at e
      exact lookup_zip h2 e
theorem se_fld (hK : X.K = T.K) {a : E} {f : Str} {x : Expr} {pos : Pos} (ha : SE T cal X a x) (hb : attributeBase x f X.env (eval x X.env) = eval x X.env) (hc : ∀ c ns, T.G.cls[c]? = some ns → f ∈ ns → Cls T.K (T.ca c) ∧ NoAttr T.K (T.ca c) f) : SE T cal X (.fld a f) (.Attribute x f pos) := by
  refine .of hK (PE.imp (pe_fld ha.p hb) fun σ H Q q => ?_) (fun _ _ => rfl) (fun _ => rfl) (fun _ _ => rfl) lt_other
  obtain ⟨Av, r, m, l, S, w⟩ := q
  refine ⟨Av, r, m, l, S, ?_⟩
  have w' : Wpe X T Av (wd Av r l σ H) l σ ((evM T.G cal a .p l m).bind fun x m => match x with
    | .obj c xs => ofO ((T.G.cls[c]?).bind fun fs => (fs.zip xs).lookup f) m
    | _ => Res.bad) _ := w
  refine (Wpe.bind w').imp fun d m1 r1 H1 _ S1 x1 w1 v hv => ?_
  cases d with
  | obj c xs =>
    obtain ⟨z, e1, w2⟩ := Wpe.opt w1 S1
    obtain ⟨ns, e2, e3⟩ := Option.bind_eq_some_iff.mp e1
    obtain ⟨b, dx, vs, ns', rfl, e4, h1, _, _, hl, hr⟩ := hv
    rw [e2] at e4
    cases e4
    obtain ⟨u, e5, hu⟩ := lookup_zip hr e3
    have hf : f ∈ ns := by
      have := List.of_mem_zip (PySem.mem_of_lookup e3)
      exact this.1
    obtain ⟨c1, c2⟩ := hc c ns e2 hf
    exact ⟨b, T.ca c, dx, ns.zip vs, u, rfl, h1, by rw [hK]; exact c1, by rw [hK]; exact c2, e5, w2 u hu⟩
  | _ => exact w1.elim

/-! calls of builtins -/
theorem se_bi (hK : X.K = T.K) {b : BI} {id : String} {nm : Str} {e : E} {es : List E} {x : Expr} {xs : List Expr} {p pos : Pos} (hr : ∃ rr, CallR X (.builtin id) rr ∧ OpB X T rr b) (hg : Gl X nm) (hm : X.mg nm = none) (hv : bootBuiltins nm = some (.builtin id)) (h : SEs T cal X (e :: es) (x :: xs))
    (hn : nm ≠ "__name__") (hdb : (nm == ("__debug__" : Str)) = false) : SE T cal X (.bcall b (e :: es)) (.Call (.Name nm p) (x :: xs) [] pos) := by
  obtain ⟨rr, h1, h2⟩ := hr
  have hs : (starEach xs X.env).any (·.1) = false := by
    cases h with
    | cons _ t => exact t.star _
  have hst : starEach (x :: xs) X.env = (false, eval x X.env) :: starEach xs X.env := by
    cases h with
    | cons h _ => exact h.lt.star _ _
  refine .of hK (PE.imp (pe_callB h1 hg hm hv (h.pa (.inr rfl)) hn hdb hst (by rw [backTo_any]; exact hs)) fun σ H Q q => ?_) (fun _ _ => rfl) (fun _ => rfl) (fun _ _ => rfl) lt_other
  obtain ⟨Av, r, m, l, S, w⟩ := q
  refine ⟨Av, r, m, l, S, ?_⟩
  have w' : Wpe X T Av (wd Av r l σ H) l σ ((evL T.G cal (e :: es) .b l m).bind fun xs m => ofO (dBI m b xs) m) _ := w
  refine (Wpe.bind w').imp fun ds m1 r1 H1 _ S1 x1 w1 vs hvs => ?_
  obtain ⟨z, e1, w2⟩ := Wpe.optE w1
  exact h2 S1 hvs e1 Q fun w' H' S' x' hw => w2 r1 H' S' x' w' hw
theorem se_ty (hK : X.K = T.K) {b : BI} {id : String} {nm : Str} {e : E} {es : List E} {x : Expr} {xs : List Expr} {p pos : Pos} (hr : ∃ rr, CallR X (.type id) rr ∧ OpB X T rr b) (hg : Gl X nm) (hm : X.mg nm = none) (hv : bootBuiltins nm = some (.type id)) (h : SEs T cal X (e :: es) (x :: xs))
    (hn : nm ≠ "__name__") (hdb : (nm == ("__debug__" : Str)) = false) : SE T cal X (.bcall b (e :: es)) (.Call (.Name nm p) (x :: xs) [] pos) := by
  obtain ⟨rr, h1, h2⟩ := hr
  have hs : (starEach xs X.env).any (·.1) = false := by
    cases h with
    | cons _ t => exact t.star _
  have hst : starEach (x :: xs) X.env = (false, eval x X.env) :: starEach xs X.env := by
    cases h with
    | cons h _ => exact h.lt.star _ _
  refine .of hK (PE.imp (pe_callTy h1 hg hm hv (h.pa (.inr rfl)) hn hdb hst (by rw [backTo_any]; exact hs)) fun σ H Q q => ?_) (fun _ _ => rfl) (fun _ => rfl) (fun _ _ => rfl) lt_other
  obtain ⟨Av, r, m, l, S, w⟩ := q
  refine ⟨Av, r, m, l, S, ?_⟩
  have w' : Wpe X T Av (wd Av r l σ H) l σ ((evL T.G cal (e :: es) .b l m).bind fun xs m => ofO (dBI m b xs) m) _ := w
  refine (Wpe.bind w').imp fun ds m1 r1 H1 _ S1 x1 w1 vs hvs => ?_
  obtain ⟨z, e1, w2⟩ := Wpe.optE w1
  exact h2 S1 hvs e1 Q fun w' H' S' x' hw => w2 r1 H' S' x' w' hw
/-- isinstance(x, T) -/
theorem se_isi (hK : X.K = T.K) {t : Ty} {e : E} {x : Expr} {tn : Str} {p p2 pos : Pos} (hg : Gl X "isinstance") (hm : X.mg "isinstance" = none) (hg2 : Gl X tn) (hm2 : X.mg tn = none) (hv2 : bootBuiltins tn = some (.type t.name)) (hn2 : tn ≠ "__name__") (hdb2 : (tn == ("__debug__" : Str)) = false) (h : SE T cal X e x) :
    SE T cal X (.bcall (.isinst t) [e]) (.Call (.Name "isinstance" p) [x, .Name tn p2] [] pos) := by
  have pa : PA X [x, .Name tn p2] (tCons (tE X T cal .b e) (tCons (tC (.ty t.name)) tNil)) := pa_cons h.b (pa_cons (pe_bltn hg2 hm2 hv2 (rfl : RelV (.ty t.name) (.type t.name)) hn2 hdb2) pa_nil) (h.lt.star _ _)
  refine .of hK (PE.imp (pe_callB call_isi hg hm boot_isinstance pa (by decide) (by decide) (h.lt.star _ _)) fun σ H Q q => ?_) (fun _ _ => rfl) (fun _ => rfl) (fun _ _ => rfl) lt_other
  obtain ⟨Av, r, m, l, S, w⟩ := q
  refine ⟨Av, r, m, l, S, ?_⟩
  have w' : Wpe X T Av (wd Av r l σ H) l σ (((evM T.G cal e .b l m).bind fun x m => Res.ok [x] m).bind fun xs m => ofO (dBI m (.isinst t) xs) m) _ := w
  rw [bind_assoc3] at w'
  refine (Wpe.bind w').imp fun d m1 r1 H1 _ S1 x1 w1 v hv => ?_
  obtain ⟨z, e1, w2⟩ := Wpe.opt w1 S1
  obtain ⟨k, e2, rfl⟩ := Option.map_eq_some_iff.mp (show (d.isTy t).map D.bl = some z from e1)
  exact isi_ok hK S1 hv e2 (w2 _ rfl)

/-! calls of own defs -/
/-- from a caller's state to the callee's promise -/
theorem spE_of {Av : Addr → Prop} {r : List Addr} {m : Sto} {l : Lo} {σ : L2.St} {H : Hp} {f : Nat} {ds : List D} {vs : List V} {Q : VK} {P : PP D} (S : SR T Av r m l σ H) (h : Reps T (wd Av r l σ H) ds vs) (w : Wpe X T Av (wd Av r l σ H) l σ (cal f ds m) P)
    (q : ∀ d m' r' H', SR T Av r' m' l σ H' → P d m' r' H' → ∀ v, Rep T (wd Av r' l σ H') d v → Q v H') (E : XK) : spE T cal f vs H Q E := by
  refine ⟨AvC Av l σ, r, m, ds, S.down, Reps.same AvC.down ds vs h, ?_⟩
  cases e : cal f ds m with
  | ok d m' =>
    rw [e] at w
    exact fun r' H' S' x v hv => q d m' r' H' (S.up S' x) (w r' H' (S.up S' x) (Ext.up x)) v (Rep.same AvC.up d v hv)
  | exc z m' =>
    rw [e] at w
    exact w
  | bad =>
    rw [e] at w
    exact w
/-- every argument is given by its place -/
theorem argVec_full {α : Type} {dfl : List (Option α)} {xs : List α} (h : xs.length = dfl.length) : argVec dfl xs [] [] = some xs := by
  unfold argVec
  rw [if_pos ⟨Nat.le_of_eq h, rfl⟩]
  have key : ∀ (k : Nat) (ys : List (Option α)) (zs : List α), zs.length = ys.length → (∀ i, i < zs.length → xs[k + i]? = zs[i]?) →
      ((ys.zipIdx k).mapM fun p => match xs[p.2]? with
        | some d => some d
        | none => match ([] : List (Nat × α)).lookup p.2 with
          | some d => some d
          | none => p.1) = some zs := by
    intro k ys
    induction ys generalizing k with
    | nil =>
      intro zs hl _
      cases zs with
      | nil => rfl
      | cons z zs => simp at hl
    | cons y ys ih =>
      intro zs hl hi
      cases zs with
      | nil => simp at hl
      | cons z zs =>
        rw [List.zipIdx_cons, List.mapM_cons]
        have h0 := hi 0 (by simp)
        simp only [Nat.add_zero, List.getElem?_cons_zero] at h0
        have h1 := ih (k + 1) zs (by simpa using hl) fun i hlt => by
          have := hi (i + 1) (by simpa using hlt)
          rw [show k + 1 + i = k + (i + 1) by omega]
          simpa using this
        simp only [h0]
        show (do let r ← _; pure (z :: r) : Option (List α)) = _
        rw [h1]
        rfl
  exact key 0 dfl xs h fun i _ => by rw [Nat.zero_add]
/-- a def that is called with all its arguments by place -/
structure FnAt (B : Bs) (cal : Nat → List D → Sto → Res D) (k : Nat) (x : Str) (f : Nat) (n : Nat) : Prop where
  ex : ∃ (a : Addr) (fd : FuncData) (ps : List Str), B.mg x = some (.ref a) ∧ PySem.W.keepIn B.T.K (.ref a) = true ∧ FnOk B.P B.w B.T.K B.mg B.base CXn k a fd ps (spE B.T cal f) ∧ Binds B.T.K fd ps [] ∧ ps.length = n
theorem se_call {B : Bs} (hB : InB B X) (hT : B.T = T) (hK : X.K = T.K) {k f n : Nat} {nm : Str} {es : List E} {xs : List Expr} {p pos : Pos} {df : List (Option D)} (hf : FnAt B cal k nm f n) (hr : Room k X.A) (hg : Gl X nm) (hdb : (nm == ("__debug__" : Str)) = false)
    (hd : T.G.dfl[f]? = some df) (hn : es.length = df.length) (h : SEs T cal X es xs) : SE T cal X (.call f es [] []) (.Call (.Name nm p) xs [] pos) := by
  subst hT
  obtain ⟨a, fd, ps, e1, e2, F, hb, hl⟩ := hf.ex
  rw [← hB.prog, ← hB.w, ← hB.K, ← hB.mg, ← hB.base] at F
  rw [← hB.mg] at e1
  rw [← hB.K] at e2 hb
  have step : ∀ {σ : L2.St} {H : Hp} {Q : VK}, tE X B.T cal .p (.call f es [] []) σ H Q → tL X B.T cal .p es σ H fun vs H1 => spE B.T cal f (vs ++ []) H1 Q E0n := by
    intro σ H Q q
    obtain ⟨Av, r, m, l, S, w⟩ := q
    refine ⟨Av, r, m, l, S, ?_⟩
    have w' : Wpe X B.T Av (wd Av r l σ H) l σ ((evL B.T.G cal es .p l m).bind fun xs m => (Res.ok [] m).bind fun ys m => match (B.T.G.dfl[f]?).bind fun df => argVec df xs [] ys with
      | some vs => cal f vs m
      | none => Res.bad) _ := w
    refine (Wpe.bind w').imp fun ds m1 r1 H1 e3 S1 x1 w1 vs hvs => ?_
    have hr := RepsM.reps hvs
    have hlen : ds.length = es.length := by
      have : ∀ {es : List E} {m m1 : Sto} {ds : List D}, evL B.T.G cal es .p l m = .ok ds m1 → ds.length = es.length := by
        intro es
        induction es with
        | nil =>
          intro m m1 ds e
          cases (show Res.ok [] m = Res.ok ds m1 from e)
          rfl
        | cons e es ih =>
          intro m m1 ds e4
          have e4' : ((evM B.T.G cal e .p l m).bind fun x m => (evL B.T.G cal es .p l m).bind fun xs m => Res.ok (x :: xs) m) = Res.ok ds m1 := e4
          cases e5 : evM B.T.G cal e .p l m with
          | ok d m2 =>
            rw [e5] at e4'
            have e6 : ((evL B.T.G cal es .p l m2).bind fun xs m => Res.ok (d :: xs) m) = Res.ok ds m1 := e4'
            cases e7 : evL B.T.G cal es .p l m2 with
            | ok ds2 m3 =>
              rw [e7] at e6
              cases (show Res.ok (d :: ds2) m3 = Res.ok ds m1 from e6)
              rw [List.length_cons, List.length_cons, ih e7]
            | exc _ _ => rw [e7] at e6; cases e6
            | bad => rw [e7] at e6; cases e6
          | exc _ _ => rw [e5] at e4'; cases e4'
          | bad => rw [e5] at e4'; cases e4'
      exact this e3
    have w2 : Wpe X B.T Av (wd Av r1 l σ H1) l σ (match (B.T.G.dfl[f]?).bind fun df => argVec df ds [] [] with
      | some vs => cal f vs m1
      | none => Res.bad) _ := w1
    rw [hd, show ((some df).bind fun df => argVec df ds [] []) = some ds from argVec_full (by rw [hlen, hn])] at w2
    show spE B.T cal f (vs ++ []) H1 Q E0n
    rw [List.append_nil]
    exact spE_of S1 hr w2 (fun d m' r' H' _ hp v hv => hp v hv) E0n
  cases h with
  | nil =>
    refine .of hK (PE.imp (pe_call0 F hr hg e1 e2 hb .nil passn hdb) fun σ H Q q => ?_) (fun _ _ => rfl) (fun _ => rfl) (fun _ _ => rfl) lt_other
    exact tL_nil (step q)
  | cons h1 t =>
    refine .of hK (PE.imp (pe_call F hr hg e1 e2 hb .nil passn ((SEs.cons h1 t).pa (.inl rfl)) hdb (h1.lt.star _ _) (by rw [backTo_any]; exact t.star _)) fun σ H Q q => step q) (fun _ _ => rfl) (fun _ => rfl) (fun _ _ => rfl) lt_other
end
end Ev

set_option Elab.async false
set_option linter.all false
set_option maxRecDepth 100000
set_option maxHeartbeats 2000000
/-! Ev10: what loops walk, by evaluation; comprehensions; records made. -/
namespace Ev
open PySem PySem.Spec PyProof.Rows L2

section
variable {X : Cx} {T : Tx} {cal : Nat → List D → Sto → Res D}
def tI (X : Cx) (T : Tx) (cal : Nat → List D → Sto → Res D) (md : Md) (ik : IK) (its : List E) : TI := fun σ H R => ∃ (Av : Addr → Prop) (r : List Addr) (m : Sto) (l : Lo), SR T Av r m l σ H ∧
  Wpe X T Av (wd Av r l σ H) l σ (evL T.G cal its md l m) fun xs m' r' H' => ∃ ds, dIter ik xs = some ds ∧ ∀ J, SR T Av r' m' l σ H' → Pres T (wd Av r' l σ H') (lof md l) σ J ds → R J H'
theorem one_of {md : Md} {e : E} {l : Lo} {m : Sto} : evL T.G cal [e] md l m = (evM T.G cal e md l m).bind fun x m => Res.ok [x] m := by
  show ((evM T.G cal e md l m).bind fun x m => (Res.ok [] m).bind fun xs m => Res.ok (x :: xs) m) = _
  cases evM T.G cal e md l m <;> rfl
theorem two_of {md : Md} {e e2 : E} {l : Lo} {m : Sto} : evL T.G cal [e, e2] md l m = (evM T.G cal e md l m).bind fun x m => (evM T.G cal e2 md l m).bind fun y m => Res.ok [x, y] m := by
  show ((evM T.G cal e md l m).bind fun x m => (evL T.G cal [e2] md l m).bind fun xs m => Res.ok (x :: xs) m) = _
  cases evM T.G cal e md l m with
  | ok d m1 =>
    show ((evL T.G cal [e2] md l m1).bind fun xs m => Res.ok (d :: xs) m) = (evM T.G cal e2 md l m1).bind fun y m => Res.ok [d, y] m
    rw [one_of]
    cases evM T.G cal e2 md l m1 <;> rfl
  | exc _ _ => rfl
  | bad => rfl
theorem pi_seqE (hK : X.K = T.K) {md : Md} (hm : md = .p ∨ md = .b) {e : E} {x tg : Expr} (h : SE T cal X e x) : PI X tg x (tI X T cal md .seq [e]) := by
  refine PI.imp (pi_seq (h.md md hm)) fun σ H R q => ?_
  obtain ⟨Av, r, m, l, S, w⟩ := q
  rw [one_of] at w
  refine ⟨Av, r, m, l, S, (Wpe.bind w).imp fun d m1 r1 H1 _ S1 x1 w1 v hv => ?_⟩
  obtain ⟨ds, e1, q⟩ := Wpe.ok w1 S1
  rw [hK]
  have hvM := hv
  have hv := RepM.toB hv
  cases d with
  | tup ys =>
    cases (show some ys = some ds from e1)
    obtain ⟨a, vs, rfl, s, _⟩ := hv.tup
    obtain ⟨b, e2, L⟩ := hv.lookT
    cases e2
    exact ⟨a, rfl, .inr (.inl ⟨⟨vs, s⟩, q _ S1 (pres_seqT L)⟩)⟩
  | lst ys =>
    cases (show some ys = some ds from e1)
    obtain ⟨a, vs, rfl, s, _⟩ := hv.lst S1
    obtain ⟨b, e2, L⟩ := hvM.lookL
    cases e2
    exact ⟨a, rfl, .inl ⟨⟨vs, .inl s⟩, q _ S1 (pres_seqL L)⟩⟩
  | rng lo hi =>
    obtain ⟨a, rfl, h1, _, _⟩ := hv.rep_of fun _ e => nomatch e
    obtain ⟨h2, rfl⟩ := ite_some (show (if rgOk lo hi then some (rgL lo hi) else none) = some ds from e1)
    exact ⟨a, rfl, .inr (.inr ⟨lo, hi, h1, h2, q _ S1 (pres_rng lo hi)⟩)⟩
  | _ => cases e1
theorem pi_range1E {md : Md} (hm : md = .p ∨ md = .b) {e : E} {x tg : Expr} {p pos : Pos} (hg : Gl X "range") (hn : X.mg "range" = none) (h : SE T cal X e x) : PI X tg (.Call (.Name "range" p) [x] [] pos) (tI X T cal md .range [e]) := by
  refine PI.imp (pi_range1 hg hn ((SEs.cons h .nil).pa hm) (h.lt.star _ _)) fun σ H R q => ?_
  obtain ⟨Av, r, m, l, S, w⟩ := q
  refine ⟨Av, r, m, l, S, w.imp fun xs m1 r1 H1 _ S1 x1 w1 vs hvs => ?_⟩
  obtain ⟨ds, e1, q⟩ := w1
  match xs, e1, hvs with
  | [.int j], e1, hvs =>
    obtain ⟨v, rfl, hv⟩ := RepsM.one hvs
    obtain ⟨pr, e2, rfl⟩ := Option.map_eq_some_iff.mp (show (rgOf [.int j]).map (fun p => rgL p.1 p.2) = some ds from e1)
    obtain ⟨⟨_, _, h3, h4⟩, rfl⟩ := ite_some (show (if rgOk 0 j then some (0, j) else none) = some pr from e2)
    refine ⟨j, by rw [(RepM.toB hv).int], h3, h4, ?_⟩
    have P := pres_rng (T := T) (W1 := wd Av r1 l σ H1) (l0 := lof md l) (σ0 := σ) 0 j
    rw [Int.sub_zero] at P
    exact q _ S1 P
  | [.int i, .int j], e1, hvs =>
    exfalso
    rename_i e3
    cases hm' : evM T.G cal e md l m with
    | ok d m2 =>
      rw [one_of, hm'] at e3
      cases e3
    | exc _ _ => rw [one_of, hm'] at e3; cases e3
    | bad => rw [one_of, hm'] at e3; cases e3
theorem pi_range2E {md : Md} (hm : md = .p ∨ md = .b) {e e2 : E} {x y tg : Expr} {p pos : Pos} (hg : Gl X "range") (hn : X.mg "range" = none) (h : SE T cal X e x) (h2 : SE T cal X e2 y) : PI X tg (.Call (.Name "range" p) [x, y] [] pos) (tI X T cal md .range [e, e2]) := by
  refine PI.imp (pi_range2 hg hn ((SEs.cons h (.cons h2 .nil)).pa hm) ((h.lt.star _ _).trans (congrArg _ (h2.lt.star _ _))) (h2.lt.star _ _)) fun σ H R q => ?_
  obtain ⟨Av, r, m, l, S, w⟩ := q
  refine ⟨Av, r, m, l, S, w.imp fun xs m1 r1 H1 e5 S1 x1 w1 vs hvs => ?_⟩
  obtain ⟨ds, e1, q⟩ := w1
  match xs, e1, hvs, e5 with
  | [.int i, .int j], e1, hvs, _ =>
    obtain ⟨v, u, rfl, hv, hu⟩ := RepsM.two hvs
    obtain ⟨pr, e2, rfl⟩ := Option.map_eq_some_iff.mp (show (rgOf [.int i, .int j]).map (fun p => rgL p.1 p.2) = some ds from e1)
    obtain ⟨h3, rfl⟩ := ite_some (show (if rgOk i j then some (i, j) else none) = some pr from e2)
    exact ⟨i, j, by rw [(RepM.toB hv).int, (RepM.toB hu).int], h3, q _ S1 (pres_rng i j)⟩
  | [.int j], e1, hvs, e5 =>
    exfalso
    rw [two_of] at e5
    cases c1 : evM T.G cal e md l m with
    | ok d m2 =>
      rw [c1] at e5
      have e6 : ((evM T.G cal e2 md l m2).bind fun y m => Res.ok [d, y] m) = Res.ok [D.int j] m1 := e5
      cases c2 : evM T.G cal e2 md l m2 with
      | ok d2 m3 => rw [c2] at e6; cases e6
      | exc _ _ => rw [c2] at e6; cases e6
      | bad => rw [c2] at e6; cases e6
    | exc _ _ => rw [c1] at e5; cases e5
    | bad => rw [c1] at e5; cases e5
theorem pi_enumE (hK : X.K = T.K) {md : Md} (hm : md = .p ∨ md = .b) {e : E} {x : Expr} {elts : List Expr} {kk : Nat} {p pos tpos : Pos} (hg : Gl X "enumerate") (hn : X.mg "enumerate" = none) (h : SE T cal X e x) : PI X (.Tuple elts kk tpos) (.Call (.Name "enumerate" p) [x] [] pos) (tI X T cal md .enum [e]) := by
  refine PI.imp (pi_enumA hg hn ((SEs.cons h .nil).pa hm) (h.lt.star _ _)) fun σ H R q => ?_
  obtain ⟨Av, r, m, l, S, w⟩ := q
  refine ⟨Av, r, m, l, S, w.imp fun xs m1 r1 H1 _ S1 x1 w1 vs hvs => ?_⟩
  obtain ⟨ds, e1, q⟩ := w1
  rw [hK]
  match xs, e1, hvs with
  | [.tup ys], e1, hvs =>
    obtain ⟨v, rfl, hv⟩ := RepsM.one hvs
    have hvM := hv
    have hv := RepM.toB hv
    cases (show some (enumD ys) = some ds from e1)
    obtain ⟨a, us, rfl, s, _⟩ := hv.tup
    obtain ⟨b, e2, L⟩ := hv.lookT
    cases e2
    exact ⟨a, us, rfl, .inr ⟨s, q _ S1 (pres_enumT L)⟩⟩
  | [.lst ys], e1, hvs =>
    obtain ⟨v, rfl, hv⟩ := RepsM.one hvs
    have hvM := hv
    have hv := RepM.toB hv
    cases (show some (enumD ys) = some ds from e1)
    obtain ⟨a, us, rfl, s, _⟩ := hv.lst S1
    obtain ⟨b, e2, L⟩ := hvM.lookL
    cases e2
    exact ⟨a, us, rfl, .inl ⟨.inl s, q _ S1 (pres_enumL L)⟩⟩
theorem pi_zipE (hK : X.K = T.K) {md : Md} (hm : md = .p ∨ md = .b) {e e2 : E} {x y : Expr} {elts : List Expr} {kk : Nat} {p pos tpos : Pos} (hg : Gl X "zip") (hn : X.mg "zip" = none) (h : SE T cal X e x) (h2 : SE T cal X e2 y) : PI X (.Tuple elts kk tpos) (.Call (.Name "zip" p) [x, y] [] pos) (tI X T cal md .zip [e, e2]) := by
  refine PI.imp (RZ.pi_zipA hg hn ((SEs.cons h (.cons h2 .nil)).pa hm) (h.lt.star _ _) (by rw [backTo_any, h2.lt.star]; rfl)) fun σ H R q => ?_
  obtain ⟨Av, r, m, l, S, w⟩ := q
  refine ⟨Av, r, m, l, S, w.imp fun xs m1 r1 H1 _ S1 x1 w1 vs hvs => ?_⟩
  obtain ⟨ds, e1, q⟩ := w1
  rw [hK]
  match xs, e1, hvs with
  | [.tup ys, .tup zs], e1, hvs =>
    obtain ⟨v, u, rfl, hv, hu⟩ := RepsM.two hvs
    have hvM := hv
    have hv := RepM.toB hv
    have huM := hu
    have hu := RepM.toB hu
    cases (show some (zipD ys zs) = some ds from e1)
    obtain ⟨a, us, rfl, s, _⟩ := hv.tup
    obtain ⟨b, e2, L⟩ := hv.lookT
    cases e2
    obtain ⟨a2, us2, rfl, s2, _⟩ := hu.tup
    obtain ⟨b, e2, L2⟩ := hu.lookT
    cases e2
    exact ⟨a, a2, us, us2, rfl, .inr ⟨s, s2, q _ S1 (pres_zipT L L2)⟩⟩
  | [.lst ys, .lst zs], e1, hvs =>
    obtain ⟨v, u, rfl, hv, hu⟩ := RepsM.two hvs
    have hvM := hv
    have hv := RepM.toB hv
    have huM := hu
    have hu := RepM.toB hu
    cases (show some (zipD ys zs) = some ds from e1)
    obtain ⟨a, us, rfl, s, _⟩ := hv.lst S1
    obtain ⟨b, e2, L⟩ := hvM.lookL
    cases e2
    obtain ⟨a2, us2, rfl, s2, _⟩ := hu.lst S1
    obtain ⟨b, e2, L2⟩ := huM.lookL
    cases e2
    exact ⟨a, a2, us, us2, rfl, .inl ⟨.inl s, .inl s2, q _ S1 (pres_zipL L L2)⟩⟩
theorem pi_revE (hK : X.K = T.K) {md : Md} (hm : md = .p ∨ md = .b) {e : E} {x tg : Expr} {p pos : Pos} (hg : Gl X "reversed") (hn : X.mg "reversed" = none) (h : SE T cal X e x) : PI X tg (.Call (.Name "reversed" p) [x] [] pos) (tI X T cal md .rev [e]) := by
  refine PI.imp (RT.pi_revA hg hn (h.md md hm) (h.lt.star _ _)) fun σ H R q => ?_
  obtain ⟨Av, r, m, l, S, w⟩ := q
  rw [one_of] at w
  refine ⟨Av, r, m, l, S, (Wpe.bind w).imp fun d m1 r1 H1 _ S1 x1 w1 v hv => ?_⟩
  obtain ⟨ds, e1, q⟩ := Wpe.ok w1 S1
  have hvM := hv
  have hv := RepM.toB hv
  rw [hK]
  cases d with
  | tup ys =>
    cases (show some ys.reverse = some ds from e1)
    obtain ⟨a, vs, rfl, s, hr⟩ := hv.tup
    obtain ⟨b, e2, L⟩ := hv.lookT
    cases e2
    exact ⟨a, vs, rfl, .inr ⟨s, q _ S1 (pres_revT L hr.length.symm)⟩⟩
  | lst ys =>
    cases (show some ys.reverse = some ds from e1)
    obtain ⟨a, vs, rfl, s, hr⟩ := hv.lst S1
    obtain ⟨b, e2, L⟩ := hvM.lookL
    cases e2
    exact ⟨a, vs, rfl, .inl ⟨.inl s, q _ S1 (pres_revL L hr.length.symm)⟩⟩
  | _ => cases e1
theorem pi_revRange1E {md : Md} (hm : md = .p ∨ md = .b) {e : E} {x tg : Expr} {p p2 pos pos2 : Pos} (hg : Gl X "reversed") (hn : X.mg "reversed" = none) (hg2 : Gl X "range") (hn2 : X.mg "range" = none) (h : SE T cal X e x) : PI X tg (.Call (.Name "reversed" p) [.Call (.Name "range" p2) [x] [] pos2] [] pos) (tI X T cal md .revRange [e]) := by
  refine PI.imp (pi_revR hg hn (prg_1 hg2 hn2 (h.md md hm) (h.lt.star _ _))) fun σ H R q => ?_
  obtain ⟨Av, r, m, l, S, w⟩ := q
  rw [one_of] at w
  refine ⟨Av, r, m, l, S, (Wpe.bind w).imp fun d m1 r1 H1 _ S1 x1 w1 v hv => ?_⟩
  obtain ⟨ds, e1, q⟩ := Wpe.ok w1 S1
  have hvM := hv
  have hv := RepM.toB hv
  cases d with
  | int j =>
    obtain ⟨pr, e2, rfl⟩ := Option.map_eq_some_iff.mp (show (rgOf [.int j]).map (fun p => (rgL p.1 p.2).reverse) = some ds from e1)
    obtain ⟨⟨h1, h2, h3, h4⟩, rfl⟩ := ite_some (show (if rgOk 0 j then some (0, j) else none) = some pr from e2)
    exact ⟨j, hv.int, h1, h2, h3, h4, q _ S1 (pres_revRng 0 j)⟩
  | _ => cases e1
theorem pi_revRange2E {md : Md} (hm : md = .p ∨ md = .b) {e e2 : E} {x y tg : Expr} {p p2 pos pos2 : Pos} (hg : Gl X "reversed") (hn : X.mg "reversed" = none) (hg2 : Gl X "range") (hn2 : X.mg "range" = none) (h : SE T cal X e x) (h2 : SE T cal X e2 y) :
    PI X tg (.Call (.Name "reversed" p) [.Call (.Name "range" p2) [x, y] [] pos2] [] pos) (tI X T cal md .revRange [e, e2]) := by
  refine PI.imp (pi_revR hg hn (prg_2 hg2 hn2 (h.md md hm) (h2.md md hm) (h.lt.star _ _) (h2.lt.star _ _) (by rw [backTo_any, h2.lt.star]; rfl))) fun σ H R q => ?_
  obtain ⟨Av, r, m, l, S, w⟩ := q
  rw [two_of] at w
  refine ⟨Av, r, m, l, S, (Wpe.bind w).imp fun d m1 r1 H1 _ S1 x1 w1 v hv => ?_⟩
  refine ⟨Av, r1, m1, l, S1, (Wpe.bind w1).imp fun d2 m2 r2 H2 _ S2 x2 w2 u hu => ?_⟩
  obtain ⟨ds, e1, q⟩ := Wpe.ok w2 S2
  have hv := RepB.ext x2 (RepM.toB hv)
  have hu := RepM.toB hu
  match d, d2, e1, hv, hu with
  | .int i, .int j, e1, hv, hu =>
    obtain ⟨pr, e2, rfl⟩ := Option.map_eq_some_iff.mp (show (rgOf [.int i, .int j]).map (fun p => (rgL p.1 p.2).reverse) = some ds from e1)
    obtain ⟨⟨h1, h2, h3, h4⟩, rfl⟩ := ite_some (show (if rgOk i j then some (i, j) else none) = some pr from e2)
    exact ⟨i, j, hv.int, hu.int, h1, h2, h3, h4, q _ S2 (pres_revRng i j)⟩
end
end Ev

set_option Elab.async false
set_option linter.all false
set_option maxRecDepth 100000
set_option maxHeartbeats 2000000
/-! Ev11: list comprehensions. -/
namespace Ev
open PySem PySem.Spec PyProof.Rows L2

section
variable {T : Tx} {Av : Addr → Prop} {r r' : List Addr} {m m' : Sto} {l l' : Lo} {σ σ' : L2.St} {H H' : Hp}
/-- back to slots that stood meanwhile -/
theorem SR.back (S : SR T Av r m l σ H) (S' : SR T Av r' m' l' σ' H') (ok : OwnOk l σ l' σ') (ok' : ∀ a, OwnAt l' σ' a → OwnAt l σ a) (x : Ext (wd Av r l σ H) (wd Av r' l σ H')) : SR T Av r' m' l σ H' := by
  have up : ∀ a, OwnAt l σ a → OwnAt l' σ' a := fun a ⟨i, xs, e1, e2⟩ => by
    obtain ⟨f1, f2⟩ := ok i xs e1
    exact ⟨i, xs, f1, f2.trans e2⟩
  have sm : Same2 (wd Av r' l' σ' H') (wd Av r' l σ H') := Same2.slots up
  refine ⟨S.len, S'.alv, S'.mlen, S'.nd, S'.rAv, fun n xs a e1 e2 => ?_, fun i s o e1 e2 => ?_, S.inj⟩
  · obtain ⟨vs, h1, h2⟩ := S'.mem n xs a e1 e2
    exact ⟨vs, h1, Reps.same sm xs vs h2⟩
  · have h := S.slot i s o e1 e2
    cases s with
    | no => trivial
    | val d =>
      obtain ⟨v, e, h⟩ := h
      exact ⟨v, e, Rep.ext x d v h⟩
    | own xs =>
      obtain ⟨f1, f2⟩ := ok i xs e1
      obtain ⟨a, vs, e, h1, h2, h3, h4⟩ := S'.slot i _ o f1 (f2.trans e2)
      exact ⟨a, vs, e, h1, Reps.same sm xs vs h2, h3, h4⟩
theorem Ext.reslot (x : Ext (wd Av r l' σ' H) (wd Av r' l' σ' H')) (ho : ∀ a, OwnAt l σ a ↔ OwnAt l' σ' a) : Ext (wd Av r l σ H) (wd Av r' l σ H') := by
  refine ⟨fun a o h n => x.keep a o h fun z => n (z.imp id (ho a).mpr), fun a o h n z => ?_, fun a o h n z => ?_, x.pre, x.live⟩
  · exact x.mu a o h (fun z => n (z.imp id (ho a).mpr)) (z.imp id (ho a).mp)
  · exact x.av a o h (fun z => n (z.imp id fun z => z.imp id (ho a).mpr)) (z.imp id fun z => z.imp id (ho a).mp)
/-- one more address that no one may use -/
def AvP (Av : Addr → Prop) (p : Addr) : Addr → Prop := fun a => Av a ∨ a = p
theorem SR.avP (S : SR T Av r m l σ H) {p : Addr} {o : HO} (hp : H p = none) : SR T (AvP Av p) r m l σ (upd H p o) ∧ Ext (wd Av r l σ H) (wd (AvP Av p) r l σ (upd H p o)) := by
  have ne : ∀ a u, H a = some u → a ≠ p := fun a u h e => by rw [e, hp] at h; cases h
  have x : Ext (wd Av r l σ H) (wd (AvP Av p) r l σ (upd H p o)) := by
    refine ⟨fun a u h _ => ?_, fun a u h n => n, fun a u h n z => ?_, fun n a h => h, fun a u h => ⟨u, ?_⟩⟩
    · show upd H p o a = some u
      rw [upd_ne (ne a u h)]
      exact h
    · rcases z with (z | z) | z
      · exact n (.inl z)
      · exact ne a u h z
      · exact n (.inr z)
    · show upd H p o a = some u
      rw [upd_ne (ne a u h)]
      exact h
  refine ⟨⟨S.len, fun a ha => ?_, S.mlen, S.nd, fun a ha z => ?_, fun n xs a e1 e2 => ?_, fun i s ov e1 e2 => ?_, S.inj⟩, x⟩
  · by_cases e : a = p
    · rw [e, upd_same]; simp
    · rw [upd_ne e]
      exact S.alv a (ha.elim id fun z => absurd z e)
  · rcases z with z | z
    · exact S.rAv a ha z
    · obtain ⟨us, hu⟩ := S.loc_at ha
      exact ne a _ hu z
  · obtain ⟨vs, h1, h2⟩ := S.mem n xs a e1 e2
    exact ⟨vs, by rw [upd_ne (ne a _ h1)]; exact h1, Reps.ext x xs vs h2⟩
  · have h := S.slot i s ov e1 e2
    cases s with
    | no => trivial
    | val d =>
      obtain ⟨v, e, h⟩ := h
      exact ⟨v, e, Rep.ext x d v h⟩
    | own xs =>
      obtain ⟨a, vs, e, h1, h2, h3, h4⟩ := h
      refine ⟨a, vs, e, ?_, Reps.ext x xs vs h2, fun z => z.elim h3 fun z => ne a _ h1 z, h4⟩
      show upd H p o a = _
      rw [upd_ne (ne a _ h1)]
      exact h1
/-- what stands at such an address is changed -/
theorem SR.updP (S : SR T Av r m l σ H) {p : Addr} {o : HO} (hp : Av p) : SR T Av r m l σ (upd H p o) ∧ Same2 (wd Av r l σ H) (wd Av r l σ (upd H p o)) := by
  have sm : Same2 (wd Av r l σ H) (wd Av r l σ (upd H p o)) := by
    refine ⟨fun a n => ?_, rfl, fun _ h => h, fun _ h z => h (.inr z)⟩
    exact upd_ne fun e => n (.inl (by rw [e]; exact hp))
  refine ⟨⟨S.len, fun a ha => ?_, S.mlen, S.nd, S.rAv, fun n xs a e1 e2 => ?_, fun i s ov e1 e2 => ?_, S.inj⟩, sm⟩
  · by_cases e : a = p
    · rw [e, upd_same]; simp
    · rw [upd_ne e]; exact S.alv a ha
  · obtain ⟨vs, h1, h2⟩ := S.mem n xs a e1 e2
    refine ⟨vs, ?_, Reps.same sm xs vs h2⟩
    rw [upd_ne fun e => S.rAv a (List.mem_of_getElem? e2) (by rw [e]; exact hp)]
    exact h1
  · have h := S.slot i s ov e1 e2
    cases s with
    | no => trivial
    | val d =>
      obtain ⟨v, e, h⟩ := h
      exact ⟨v, e, Rep.same sm d v h⟩
    | own xs =>
      obtain ⟨a, vs, e, h1, h2, h3, h4⟩ := h
      refine ⟨a, vs, e, ?_, Reps.same sm xs vs h2, h3, h4⟩
      show upd H p o a = _
      rw [upd_ne fun e => h3 (by rw [e]; exact hp)]
      exact h1
theorem Ext.updP {W : Wd} {p : Addr} {o : HO} (x : Ext W (wd Av r l σ H)) (hp : W.H p = none) : Ext W (wd Av r l σ (upd H p o)) := by
  have ne : ∀ a u, W.H a = some u → a ≠ p := fun a u h e => by rw [e, hp] at h; cases h
  refine ⟨fun a u h n => ?_, x.mu, x.av, x.pre, fun a u h => ?_⟩
  · show upd H p o a = some u
    rw [upd_ne (ne a u h)]
    exact x.keep a u h n
  · obtain ⟨o', h'⟩ := x.live a u h
    refine ⟨o', ?_⟩
    show upd H p o a = some o'
    rw [upd_ne (ne a u h)]
    exact h'
/-- the address is given free: a value may lie there -/
theorem SR.unP {p : Addr} (S : SR T (AvP Av p) r m l σ H) : SR T Av r m l σ H ∧ Same2 (wd (AvP Av p) r l σ H) (wd Av r l σ H) := by
  have sm : Same2 (wd (AvP Av p) r l σ H) (wd Av r l σ H) := ⟨fun _ _ => rfl, rfl, fun a h z => h (z.imp .inl id), fun a h z => h (.inr z)⟩
  refine ⟨⟨S.len, fun a ha => S.alv a (.inl ha), S.mlen, S.nd, fun a ha z => S.rAv a ha (.inl z), fun n xs a e1 e2 => ?_, fun i s ov e1 e2 => ?_, S.inj⟩, sm⟩
  · obtain ⟨vs, h1, h2⟩ := S.mem n xs a e1 e2
    exact ⟨vs, h1, Reps.same sm xs vs h2⟩
  · have h := S.slot i s ov e1 e2
    cases s with
    | no => trivial
    | val d =>
      obtain ⟨v, e, h⟩ := h
      exact ⟨v, e, Rep.same sm d v h⟩
    | own xs =>
      obtain ⟨a, vs, e, h1, h2, h3, h4⟩ := h
      exact ⟨a, vs, e, h1, Reps.same sm xs vs h2, fun z => h3 (.inl z), h4⟩
theorem SR.notP {p : Addr} (S : SR T (AvP Av p) r m l σ H) : p ∉ r ∧ ¬ OwnAt l σ p := by
  refine ⟨fun z => S.rAv p z (.inr rfl), fun ⟨i, xs, e1, e2⟩ => ?_⟩
  obtain ⟨a, vs, e3, _, _, h3, _⟩ := S.own_at e1
  rw [e2] at e3
  cases e3
  exact h3 (.inr rfl)

/-! the block's slots -/
theorem wipe_own : ∀ {own : List Nat}, ownFree l own = true → SR T Av r m l σ H → SR T Av r m (wipeL l own) (wipe σ own) H ∧ OwnOk l σ (wipeL l own) (wipe σ own) ∧ (∀ a, OwnAt (wipeL l own) (wipe σ own) a → OwnAt l σ a)
  | [], _, S => ⟨S, OwnOk.refl l σ, fun _ h => h⟩
  | v :: own, h, S => by
    obtain ⟨h1, h2⟩ := Bool.and_eq_true_iff.mp (show ((!ownAtB l v) && ownFree l own) = true from h)
    obtain ⟨S1, ok1, ho1⟩ := wipe_own h2 S
    have hv : ∀ xs, l[v]? ≠ some (.own xs) := fun xs e => by
      unfold ownAtB at h1
      rw [e] at h1
      cases h1
    refine ⟨?_, fun i xs e => ?_, fun a ha => ho1 a (ownAt_set (i := v) (s := .no) (o := none) (fun xs e => nomatch e) a ha)⟩
    · refine S1.reslot (by show ((wipeL l own).set v .no).length = ((wipe σ own).set v none).length; rw [List.length_set, List.length_set]; exact S1.len) (ownAt_set fun xs e => nomatch e) (fun j s o e1 e2 => ?_) (own_inj_set S1 fun xs e => nomatch e)
      rcases getSet e1 with ⟨_, e3, _⟩ | ⟨n1, e3⟩
      · exact .inr (.inl e3)
      · rcases getSet e2 with ⟨e, _⟩ | ⟨_, e4⟩
        · exact absurd e n1
        · exact .inl ⟨e3, e4⟩
    · have hne : i ≠ v := fun z => hv xs (by rw [← z]; exact e)
      obtain ⟨f1, f2⟩ := ok1 i xs e
      exact ⟨(List.getElem?_set_ne (Ne.symm hne)).trans f1, (List.getElem?_set_ne (Ne.symm hne)).trans f2⟩
theorem wipe_eq {own : List Nat} {σ1 σ2 : L2.St} (hl : σ1.length = σ2.length) (hk : ∀ j, j ∉ own → σ1[j]? = σ2[j]?) : wipe σ1 own = wipe σ2 own := by
  refine List.ext_getElem? fun j => ?_
  by_cases hj : j ∈ own
  · have key : ∀ (σ : L2.St) (own : List Nat), j ∈ own → (wipe σ own)[j]? = if j < σ.length then some none else none := by
      intro σ own
      induction own with
      | nil => intro h; cases h
      | cons v own ih =>
        intro h
        show ((wipe σ own).set v none)[j]? = _
        by_cases e : v = j
        · subst e
          by_cases hlt : v < σ.length
          · rw [List.getElem?_set_self (by rw [wipe_length]; exact hlt), if_pos hlt]
          · rw [List.getElem?_eq_none (by rw [List.length_set, wipe_length]; omega), if_neg hlt]
        · rw [List.getElem?_set_ne e]
          exact ih ((List.mem_cons.mp h).resolve_left fun z => e z.symm)
    rw [key σ1 own hj, key σ2 own hj, hl]
  · have key : ∀ (σ : L2.St) (own : List Nat), j ∉ own → (wipe σ own)[j]? = σ[j]? := by
      intro σ own
      induction own with
      | nil => intro _; rfl
      | cons v own ih =>
        intro h
        rw [List.mem_cons, not_or] at h
        show ((wipe σ own).set v none)[j]? = _
        rw [List.getElem?_set_ne (Ne.symm h.1)]
        exact ih h.2
    rw [key σ1 own hj, key σ2 own hj, hk j hj]
end

theorem Res.bind_ok {α β : Type} {q : Res α} {f : α → Sto → Res β} {b : β} {m : Sto} (h : q.bind f = .ok b m) : ∃ a m1, q = .ok a m1 ∧ f a m1 = .ok b m := by
  cases q with
  | ok a m1 => exact ⟨a, m1, rfl, h⟩
  | exc _ _ => cases h
  | bad => cases h
/-- what an evaluation gave, of any state -/
theorem Wpe.of_ok {α : Type} {X : Cx} {T : Tx} {Av : Addr → Prop} {W : Wd} {l : Lo} {σ : L2.St} {q : Res α} {a : α} {m : Sto} {P : PP α} (e : q = .ok a m) (h : ∀ r' H', SR T Av r' m l σ H' → Ext W (wd Av r' l σ H') → P a m r' H') : Wpe X T Av W l σ q P := by
  subst e
  exact h

mutual
theorem Tg.set_keep : ∀ {tg : Tg} {d : D} {l l' : Lo}, tg.set d l = some l' → ∀ {j : Nat}, j ∉ tg.slots → l'[j]? = l[j]?
  | .name i, d, l, l', e, j, h => by
    cases (show some (l.set i (.val d)) = some l' from e)
    exact List.getElem?_set_ne fun z => h (by rw [← z]; exact List.mem_singleton.mpr rfl)
  | .tup ts, .tup xs, l, l', e, j, h => Tg.setAll_keep (show Tg.setAll ts xs l = some l' from e) h
  | .tup _, .non, _, _, e, _, _ => by cases e
  | .tup _, .bl _, _, _, e, _, _ => by cases e
  | .tup _, .int _, _, _, e, _, _ => by cases e
  | .tup _, .str _, _, _, e, _, _ => by cases e
  | .tup _, .lst _, _, _, e, _, _ => by cases e
  | .tup _, .loc _, _, _, e, _, _ => by cases e
  | .tup _, .obj _ _, _, _, e, _, _ => by cases e
  | .tup _, .rng _ _, _, _, e, _, _ => by cases e
theorem Tg.setAll_keep : ∀ {ts : List Tg} {ds : List D} {l l' : Lo}, Tg.setAll ts ds l = some l' → ∀ {j : Nat}, j ∉ Tg.slotsAll ts → l'[j]? = l[j]?
  | [], [], l, l', e, j, h => by
    cases (show some l = some l' from e)
    rfl
  | [], _ :: _, _, _, e, _, _ => by cases e
  | _ :: _, [], _, _, e, _, _ => by cases e
  | t :: ts, d :: ds, l, l', e, j, h => by
    obtain ⟨l1, e1, e2⟩ := Option.bind_eq_some_iff.mp (show ((Tg.set t d l).bind fun l' => Tg.setAll ts ds l') = some l' from e)
    have h' : j ∉ Tg.slots t ++ Tg.slotsAll ts := h
    rw [List.mem_append, not_or] at h'
    exact (Tg.setAll_keep e2 h'.2).trans (Tg.set_keep e1 h'.1)
end
mutual
theorem Tg.set_noOwn : ∀ {tg : Tg} {d : D} {l l' : Lo}, tg.set d l = some l' → ∀ {j : Nat} {xs : List D}, l'[j]? = some (.own xs) → l[j]? = some (.own xs)
  | .name i, d, l, l', e, j, xs, h => by
    cases (show some (l.set i (.val d)) = some l' from e)
    rcases getSet h with ⟨_, e, _⟩ | ⟨_, e⟩
    · cases e
    · exact e
  | .tup ts, .tup xs, l, l', e, j, _, h => Tg.setAll_noOwn (show Tg.setAll ts xs l = some l' from e) h
  | .tup _, .non, _, _, e, _, _, _ => by cases e
  | .tup _, .bl _, _, _, e, _, _, _ => by cases e
  | .tup _, .int _, _, _, e, _, _, _ => by cases e
  | .tup _, .str _, _, _, e, _, _, _ => by cases e
  | .tup _, .lst _, _, _, e, _, _, _ => by cases e
  | .tup _, .loc _, _, _, e, _, _, _ => by cases e
  | .tup _, .obj _ _, _, _, e, _, _, _ => by cases e
  | .tup _, .rng _ _, _, _, e, _, _, _ => by cases e
theorem Tg.setAll_noOwn : ∀ {ts : List Tg} {ds : List D} {l l' : Lo}, Tg.setAll ts ds l = some l' → ∀ {j : Nat} {xs : List D}, l'[j]? = some (.own xs) → l[j]? = some (.own xs)
  | [], [], l, l', e, j, _, h => by
    cases (show some l = some l' from e)
    exact h
  | [], _ :: _, _, _, e, _, _, _ => by cases e
  | _ :: _, [], _, _, e, _, _, _ => by cases e
  | t :: ts, d :: ds, l, l', e, j, _, h => by
    obtain ⟨l1, e1, e2⟩ := Option.bind_eq_some_iff.mp (show ((Tg.set t d l).bind fun l' => Tg.setAll ts ds l') = some l' from e)
    exact Tg.set_noOwn e1 (Tg.setAll_noOwn e2 h)
end
mutual
theorem Tg.set_val : ∀ {tg : Tg} {d : D} {l l' : Lo}, tg.set d l = some l' → ∀ {j : Nat} {xs : List D}, j ∈ tg.slots → l'[j]? = some (.own xs) → False
  | .name i, d, l, l', e, j, xs, hj, h => by
    cases (show some (l.set i (.val d)) = some l' from e)
    rcases getSet h with ⟨_, e, _⟩ | ⟨n, _⟩
    · cases e
    · exact n (List.mem_singleton.mp hj)
  | .tup ts, .tup xs, l, l', e, j, _, hj, h => Tg.setAll_val (show Tg.setAll ts xs l = some l' from e) hj h
  | .tup _, .non, _, _, e, _, _, _, _ => by cases e
  | .tup _, .bl _, _, _, e, _, _, _, _ => by cases e
  | .tup _, .int _, _, _, e, _, _, _, _ => by cases e
  | .tup _, .str _, _, _, e, _, _, _, _ => by cases e
  | .tup _, .lst _, _, _, e, _, _, _, _ => by cases e
  | .tup _, .loc _, _, _, e, _, _, _, _ => by cases e
  | .tup _, .obj _ _, _, _, e, _, _, _, _ => by cases e
  | .tup _, .rng _ _, _, _, e, _, _, _, _ => by cases e
theorem Tg.setAll_val : ∀ {ts : List Tg} {ds : List D} {l l' : Lo}, Tg.setAll ts ds l = some l' → ∀ {j : Nat} {xs : List D}, j ∈ Tg.slotsAll ts → l'[j]? = some (.own xs) → False
  | [], [], l, l', e, j, _, hj, h => by cases hj
  | [], _ :: _, _, _, e, _, _, _, _ => by cases e
  | _ :: _, [], _, _, e, _, _, _, _ => by cases e
  | t :: ts, d :: ds, l, l', e, j, _, hj, h => by
    obtain ⟨l1, e1, e2⟩ := Option.bind_eq_some_iff.mp (show ((Tg.set t d l).bind fun l' => Tg.setAll ts ds l') = some l' from e)
    have hj' : j ∈ Tg.slots t ++ Tg.slotsAll ts := hj
    rcases List.mem_append.mp hj' with z | z
    · exact Tg.set_val e1 z (Tg.setAll_noOwn e2 h)
    · exact Tg.setAll_val e2 z h
end
section
variable {X : Cx} {T : Tx} {cal : Nat → List D → Sto → Res D}
/-- one turn -/
def lcF (T : Tx) (cal : Nat → List D → Sto → Res D) (elt : E) (tg : Tg) (ifs : List E) (own : List Nat) (l : Lo) (d : D) (acc : List D) (m : Sto) : Res (List D) := match Tg.set tg d (wipeL l own) with
  | some l' => (evTs T.G cal true ifs l' m).bind fun k m => match k with
    | .bl true => (evM T.G cal elt .p l' m).bind fun y m => .ok (acc ++ [y]) m
    | .bl false => .ok acc m
    | _ => .bad
  | none => .bad
theorem lcF_ok {elt : E} {tg : Tg} {ifs : List E} {own : List Nat} {l : Lo} {d : D} {acc acc2 : List D} {m m2 : Sto} (h : lcF T cal elt tg ifs own l d acc m = .ok acc2 m2) :
    ∃ l' k m1, Tg.set tg d (wipeL l own) = some l' ∧ evTs T.G cal true ifs l' m = .ok (.bl k) m1 ∧ ((k = true ∧ ∃ y, evM T.G cal elt .p l' m1 = .ok y m2 ∧ acc2 = acc ++ [y]) ∨ (k = false ∧ acc2 = acc ∧ m2 = m1)) := by
  unfold lcF at h
  cases e : Tg.set tg d (wipeL l own) with
  | none =>
    rw [e] at h
    cases h
  | some l' =>
    rw [e] at h
    obtain ⟨k, m1, e1, e2⟩ := Res.bind_ok h
    cases k with
    | bl k =>
      refine ⟨l', k, m1, rfl, e1, ?_⟩
      cases k with
      | true =>
        obtain ⟨y, m3, e3, e4⟩ := Res.bind_ok (show ((evM T.G cal elt .p l' m1).bind fun y m => Res.ok (acc ++ [y]) m) = Res.ok acc2 m2 from e2)
        cases e4
        exact .inl ⟨rfl, y, e3, rfl⟩
      | false =>
        cases (show Res.ok acc m1 = Res.ok acc2 m2 from e2)
        exact .inr ⟨rfl, rfl, rfl⟩
    | _ => cases e2
theorem fold_len {elt : E} {tg : Tg} {ifs : List E} {own : List Nat} {l : Lo} : ∀ {ds acc ys : List D} {m m' : Sto}, itFold (lcF T cal elt tg ifs own l) ds acc m = .ok ys m' → acc.length ≤ ys.length
  | [], acc, ys, m, m', h => by
    cases (show Res.ok acc m = Res.ok ys m' from h)
    exact Nat.le_refl _
  | d :: ds, acc, ys, m, m', h => by
    obtain ⟨acc2, m1, e1, e2⟩ := Res.bind_ok (show ((lcF T cal elt tg ifs own l d acc m).bind fun a' m' => itFold (lcF T cal elt tg ifs own l) ds a' m') = Res.ok ys m' from h)
    have h2 := fold_len e2
    obtain ⟨l', k, m3, _, _, h3⟩ := lcF_ok e1
    rcases h3 with ⟨_, y, _, rfl⟩ | ⟨_, rfl, _⟩
    · rw [List.length_append] at h2
      simp at h2
      omega
    · exact h2

/-- a new list's coming: no one else knows it -/
def WpF (X : Cx) (T : Tx) (Av : Addr → Prop) (W : Wd) (l : Lo) (σ : L2.St) (q : Res D) (P : Addr → Hp → Prop) : Prop := match q with
  | .ok d m' => ∀ xs, d = .lst xs → ∀ p vs r' H', SR T (AvP Av p) r' m' l σ H' → Ext W (wd (AvP Av p) r' l σ H') → W.H p = none → ¬ Av p → H' p = some (.lst vs) → Reps T (wd (AvP Av p) r' l σ H') xs vs → P p H'
  | .exc e m => Xp X T Av W l σ e m
  | .bad => False
theorem WpF.bind {α : Type} {Av : Addr → Prop} {W : Wd} {l : Lo} {σ : L2.St} {q : Res α} {f : α → Sto → Res D} {P : Addr → Hp → Prop} (h : WpF X T Av W l σ (q.bind f) P) :
    Wpe X T Av W l σ q fun a m r H => WpF X T Av (wd Av r l σ H) l σ (f a m) P := by
  cases q with
  | ok a m =>
    intro r' H' S x
    have h1 : WpF X T Av W l σ (f a m) P := h
    show WpF X T Av (wd Av r' l σ H') l σ (f a m) P
    cases e : f a m with
    | ok b m2 =>
      rw [e] at h1
      refine fun xs ex p vs r2 H2 S2 x2 hw => h1 xs ex p vs r2 H2 S2 (x.trans x2) ?_
      cases e9 : W.H p with
      | none => rfl
      | some o =>
        obtain ⟨o', e8⟩ := x.live p o e9
        rw [hw] at e8
        cases e8
    | exc z m2 =>
      rw [e] at h1
      exact Xp.mono (X := X) (T := T) (Av := Av) (l := l) (σ := σ) (e := z) (m := m2) x h1
    | bad =>
      rw [e] at h1
      exact h1
  | exc e m => exact h
  | bad => exact h
/-- as any value -/
theorem WpF.of {Av : Addr → Prop} {r : List Addr} {H : Hp} {l : Lo} {σ : L2.St} {q : Res D} {Q : VK} (h : Wpe X T Av (wd Av r l σ H) l σ q fun d m' r' H' => ∀ v, Rep T (wd Av r' l σ H') d v → Q v H') :
    WpF X T Av (wd Av r l σ H) l σ q fun p H' => Q (.ref p) H' := by
  cases q with
  | ok d m' =>
    intro xs e p vs r' H' S3 x3 _ hn hp hr
    subst e
    obtain ⟨S4, sm⟩ := SR.unP S3
    obtain ⟨np1, np2⟩ := SR.notP S3
    have x4 : Ext (wd Av r l σ H) (wd Av r' l σ H') := ⟨x3.keep, x3.mu, fun a o h n z => x3.av a o h n (z.imp .inl id), x3.pre, x3.live⟩
    exact h r' H' S4 x4 (.ref p) ⟨p, vs, rfl, .inl hp, fun z => z.elim np1 np2, fun z => z.elim hn fun z => z.elim np1 np2, Reps.same sm _ vs hr⟩
  | exc e m => exact h
  | bad => exact h
/-- an expression that makes a new list -/
def tF (X : Cx) (T : Tx) (cal : Nat → List D → Sto → Res D) (e : E) : TE := fun σ H Q => ∃ (Av : Addr → Prop) (r : List Addr) (m : Sto) (l : Lo), SR T Av r m l σ H ∧ WpF X T Av (wd Av r l σ H) l σ (evM T.G cal e .p l m) fun p H' => Q (.ref p) H'
theorem tF.of {e : E} {σ : L2.St} {H : Hp} {Q : VK} (q : tE X T cal .p e σ H Q) : tF X T cal e σ H Q := by
  obtain ⟨Av, r, m, l, S, w⟩ := q
  exact ⟨Av, r, m, l, S, WpF.of w⟩
theorem lc_core2 {elt : E} {tg : Tg} {ik : IK} {its ifs : List E} {own : List Nat} (hs : ∀ j ∈ tg.slots, j ∈ own) {σ : L2.St} {H : Hp} {Q : VK} (q : tF X T cal (.lc elt tg ik its ifs own) σ H Q) :
    tLc (tI X T cal .b ik its) (tG T tg) (tTs X T cal true ifs) (tE X T cal .p elt) own σ H Q := by
  obtain ⟨Av, r, m, l, S, w⟩ := q
  refine ⟨Av, r, m, l, S, ?_⟩
  have w' : WpF X T Av (wd Av r l σ H) l σ ((evL T.G cal its .b l m).bind fun xs m => match dIter ik xs with
    | some ds => if ownFree l own then (noX (itFold (lcF T cal elt tg ifs own l) ds ([] : List D) m)).bind fun ys m => if ys.length ≤ sizeLine then Res.ok (D.lst ys) m else Res.bad else Res.bad
    | none => Res.bad) _ := w
  refine (WpF.bind w').imp fun xs m1 r1 H1 _ S1 x1 w1 => ?_
  cases eds : dIter ik xs with
  | none =>
    rw [eds] at w1
    exact w1.elim
  | some ds =>
  rw [eds] at w1
  refine ⟨ds, rfl, fun J _ PJ => ?_⟩
  have w2 : WpF X T Av (wd Av r1 l σ H1) l σ (if ownFree l own then (noX (itFold (lcF T cal elt tg ifs own l) ds ([] : List D) m1)).bind fun ys m => if ys.length ≤ sizeLine then Res.ok (D.lst ys) m else Res.bad else Res.bad) (fun p H' => Q (.ref p) H') := w1
  by_cases hof : ownFree l own = true
  case neg =>
    rw [if_neg hof] at w2
    exact w2.elim
  rw [if_pos hof] at w2
  cases etot : itFold (lcF T cal elt tg ifs own l) ds ([] : List D) m1 with
  | exc _ _ =>
    rw [etot] at w2
    exact w2.elim
  | bad =>
    rw [etot] at w2
    exact w2.elim
  | ok ysF mF =>
  rw [etot] at w2
  have w3 : WpF X T Av (wd Av r1 l σ H1) l σ (if ysF.length ≤ sizeLine then Res.ok (D.lst ysF) mF else Res.bad) (fun p H' => Q (.ref p) H') := w2
  by_cases hlF : ysF.length ≤ sizeLine
  case neg =>
    rw [if_neg hlF] at w3
    exact w3.elim
  rw [if_pos hlF] at w3
  intro Dn hD
  -- the state at a turn
  let In : Nat → Hp → Prop := fun i H' => i ≤ ds.length ∧ ∃ (r' : List Addr) (m' : Sto) (acc : List D) (vs : List V), itFold (lcF T cal elt tg ifs own l) (ds.drop i) acc m' = .ok ysF mF ∧ SR T (AvP Av Dn) r' m' l σ H' ∧ H' Dn = some (.lst vs) ∧
    Reps T (wd (AvP Av Dn) r' l σ H') acc vs ∧ Ext (wd Av r1 l σ H1) (wd (AvP Av Dn) r' l σ H')
  obtain ⟨S2, x2⟩ := SR.avP (T := T) S1 (o := .lst []) hD
  refine ⟨fun i n H' => n = ds.length - i ∧ In i H', ⟨ds.length, by simp, Nat.zero_le _, r1, m1, [], [], by rw [List.drop_zero]; exact etot, S2, upd_same, Reps.nil, x2⟩, ?_⟩
  rintro i n H2 ⟨rfl, hi2, r2, m2, acc, vs, efold, S3, hDv, hacc, x3⟩
  by_cases hlt : i < ds.length
  case neg =>
    have hie : i = ds.length := by omega
    subst hie
    refine .inl ⟨PJ.stop S3 x3 (OwnOk.refl l σ), ?_⟩
    rw [List.drop_length] at efold
    cases (show Res.ok acc m2 = Res.ok ysF mF from efold)
    exact w3 ysF rfl Dn vs r2 H2 S3 x3 hD (fun z => S1.alv Dn z hD) hDv hacc
  refine .inr ⟨PJ.go i S3 x3 (OwnOk.refl l σ) hlt, fun H' => In (i + 1) H', fun H' h => ⟨ds.length - (i + 1), by omega, rfl, h⟩, fun x H3 hy => ?_⟩
  obtain ⟨S4, x4, d, hd, hx⟩ := PJ.yld i x H3 S3 x3 (OwnOk.refl l σ) hy hlt
  have edrop : ds.drop i = d :: ds.drop (i + 1) := by
    rw [List.drop_eq_getElem_cons hlt]
    rw [List.getElem?_eq_getElem hlt] at hd
    rw [Option.some.inj hd]
  rw [edrop] at efold
  obtain ⟨acc2, m3, e1, e2⟩ := Res.bind_ok (show ((lcF T cal elt tg ifs own l d acc m2).bind fun a' m' => itFold (lcF T cal elt tg ifs own l) (ds.drop (i + 1)) a' m') = Res.ok ysF mF from efold)
  obtain ⟨l', k, m4, etg, eifs, ecase⟩ := lcF_ok e1
  obtain ⟨S5, ok5, ho5⟩ := wipe_own hof S4
  have sm5 : Same2 (wd (AvP Av Dn) r2 l σ H3) (wd (AvP Av Dn) r2 (wipeL l own) (wipe σ own) H3) := Same2.slots ho5
  refine ⟨AvP Av Dn, r2, m2, wipeL l own, d, l', S5, Rep.same sm5 d x hx, etg, fun σ' P => ?_⟩
  -- the block's slots: nothing of the frame's own has changed
  have hlen : σ'.length = (wipe σ own).length := P.len
  have hwipe : wipe σ' own = wipe σ own := by
    have h1 := wipe_eq (own := own) (σ1 := σ') (σ2 := wipe σ own) hlen fun j hj => P.keep j fun z => hj (hs j z)
    rw [h1]
    exact wipe_eq (wipe_length σ own) fun j hj => by
      have key2 : ∀ (own : List Nat), j ∉ own → (wipe σ own)[j]? = σ[j]? := by
        intro own
        induction own with
        | nil => intro _; rfl
        | cons v own ih =>
          intro h
          rw [List.mem_cons, not_or] at h
          show ((wipe σ own).set v none)[j]? = _
          rw [List.getElem?_set_ne (Ne.symm h.1)]
          exact ih h.2
      exact key2 own hj
  refine ⟨hwipe, ?_⟩
  have okA : OwnOk l σ l' σ' := by
    intro j ys ej
    obtain ⟨f1, f2⟩ := ok5 j ys ej
    have hjo : j ∉ own := fun z => by
      have h1 := List.all_eq_true.mp hof j z
      unfold ownAtB at h1
      rw [ej] at h1
      cases h1
    have hjt : j ∉ tg.slots := fun z => hjo (hs j z)
    refine ⟨?_, (P.keep j hjt).trans f2⟩
    rw [Tg.set_keep etg hjt]
    exact f1
  have hoA : ∀ a, OwnAt l' σ' a → OwnAt l σ a := fun a ⟨j, ys, ej, ejs⟩ => ho5 a ⟨j, ys, Tg.set_noOwn etg ej, by
    by_cases hj : j ∈ tg.slots
    · exfalso
      -- a slot of the target holds a value, no list of the frame's own
      exact Tg.set_val etg hj ej
    · exact (P.keep j hj).symm.trans ejs⟩
  have hoB : ∀ a, OwnAt l σ a ↔ OwnAt l' σ' a := fun a => ⟨fun ⟨j, ys, ej, ejs⟩ => by
    obtain ⟨f1, f2⟩ := okA j ys ej
    exact ⟨j, ys, f1, f2.trans ejs⟩, hoA a⟩
  -- the tests
  refine ⟨AvP Av Dn, r2, m2, l', P.sr, Wpe.of_ok eifs fun r3 H4 S6 x6 b hb => ?_⟩
  cases hb
  have x7 : Ext (wd (AvP Av Dn) r2 l σ H3) (wd (AvP Av Dn) r3 l σ H4) := Ext.reslot x6 hoB
  have S7 : SR T (AvP Av Dn) r3 m4 l σ H4 := S4.back S6 okA hoA x7
  have keepD : ∀ {ra rb : List Addr} {Ha Hb : Hp} {ma : Sto}, SR T (AvP Av Dn) ra ma l σ Ha → Ext (wd (AvP Av Dn) ra l σ Ha) (wd (AvP Av Dn) rb l σ Hb) → Ha Dn = some (.lst vs) → Hb Dn = some (.lst vs) := fun Sa xa ha => by
    obtain ⟨np1, np2⟩ := SR.notP Sa
    exact xa.keep Dn _ ha fun z => z.elim np1 np2
  have hD3 : H3 Dn = some (.lst vs) := keepD S3 x4 hDv
  have hD4 : H4 Dn = some (.lst vs) := keepD S4 x7 hD3
  rcases ecase with ⟨rfl, y, eelt, rfl⟩ | ⟨rfl, rfl, rfl⟩
  · rw [if_pos rfl]
    refine ⟨AvP Av Dn, r3, m4, l', S6, Wpe.of_ok eelt fun r4 H5 S8 x8 v hv => ?_⟩
    have x9 : Ext (wd (AvP Av Dn) r3 l σ H4) (wd (AvP Av Dn) r4 l σ H5) := Ext.reslot x8 hoB
    have S9 : SR T (AvP Av Dn) r4 m3 l σ H5 := S7.back S8 okA hoA x9
    have hD5 : H5 Dn = some (.lst vs) := keepD S7 x9 hD4
    have hlen2 := fold_len e2
    rw [List.length_append] at hlen2
    have hl1 := hacc.length
    obtain ⟨S10, sm10⟩ := SR.updP (T := T) S9 (o := .lst (vs ++ [v])) (.inr rfl : AvP Av Dn Dn)
    refine ⟨vs, hD5, ?_, hlt, r4, m3, acc ++ [y], vs ++ [v], e2, S10, upd_same, ?_, ?_⟩
    · simp at hlen2
      omega
    · refine Reps.same sm10 _ _ (Reps.append (Reps.ext ((x4.trans x7).trans x9) acc vs hacc) (Reps.cons ?_ Reps.nil))
      exact Rep.same (Same2.slots fun a => (hoB a).mp) y v hv
    · exact Ext.updP (((x3.trans x4).trans x7).trans x9) hD
  · rw [if_neg Bool.false_ne_true]
    exact ⟨hlt, r3, _, _, vs, e2, S7, hD4, Reps.ext (x4.trans x7) _ vs hacc, (x3.trans x4).trans x7⟩
theorem se_lc (hK : X.K = T.K) (hc : X.calm = true) (hN : X.N.Nodup) {elt : E} {tg : Tg} {ik : IK} {its ifs : List E} {own : List Nat} {ownN : List (Str × Nat)} {ex tx ix : Expr} {cs : List Expr} {scope : Scope} {pos : Pos}
    (hi : PI X tx ix (tI X T cal .b ik its)) (ok : BlkOk X.N X.env.scope scope ownN) (ho : ownN.map (·.2) = own) (hs : ∀ j ∈ tg.slots, j ∈ own) (hf : ∀ v, foldedSetIterable ix X.env v = pure v)
    (hg : ∀ (s : Shared) (H : Hp) (C : Addr) (cl : List (Str × Addr)) (fp : List Addr), PG (X.blk s H scope (compEnvC scope cl C X.env) fp) tx (tG T tg))
    (ht : ∀ (s : Shared) (H : Hp) (C : Addr) (cl : List (Str × Addr)) (fp : List Addr), PTs (X.blk s H scope (compEnvC scope cl C X.env) fp) cs (tTs (X.blk s H scope (compEnvC scope cl C X.env) fp) T cal true ifs))
    (he : ∀ (s : Shared) (H : Hp) (C : Addr) (cl : List (Str × Addr)) (fp : List Addr), PE (X.blk s H scope (compEnvC scope cl C X.env) fp) ex (tE (X.blk s H scope (compEnvC scope cl C X.env) fp) T cal .p elt)) :
    SE T cal X (.lc elt tg ik its ifs own) (.ListComp ex [⟨tx, ix, cs, 0⟩] scope pos) := by
  have key : PE X (.ListComp ex [⟨tx, ix, cs, 0⟩] scope pos) (tLc (tI X T cal .b ik its) (tG T tg) (tTs X T cal true ifs) (tE X T cal .p elt) own) := by
    have h := pe_lc (pos := pos) (te := tE X T cal .p elt) (tt := tTs X T cal true ifs) (g := tG T tg) hc hN hi ok hg (fun s H C cl fp => ht s H C cl fp) (fun s H C cl fp => he s H C cl fp) hf
    rw [ho] at h
    exact h
  exact .of hK (PE.imp key fun σ H Q q => lc_core2 hs (tF.of q)) (fun _ _ => rfl) (fun _ => rfl) (fun _ _ => rfl) lt_other
end
end Ev

set_option Elab.async false
set_option linter.all false
set_option maxRecDepth 100000
set_option maxHeartbeats 2000000
/-! Ev12: blocks. -/
namespace Ev
open PySem PySem.Spec PyProof.Rows L2

/-- an error's way out of a block (none as yet) -/
def Xs (X : Cx) (T : Tx) (Av : Addr → Prop) (W : Wd) (e : Ex) (l : Lo) (m : Sto) : Prop := False
theorem Xs.mono {X : Cx} {T : Tx} {Av : Addr → Prop} {W W1 : Wd} {l : Lo} {e : Ex} {m : Sto} (x : Ext W W1) (h : Xs X T Av W e l m) : Xs X T Av W1 e l m := h
/-- what is to be shown of a block's run -/
def Wps (X : Cx) (T : Tx) (Av : Addr → Prop) (W : Wd) (q : Res Out) (D : Ends) : Prop := match q with
  | .ok (.nx l) m => ∀ r' σ' H', SR T Av r' m l σ' H' → Ext W (wd Av r' l σ' H') → D.nx σ' H'
  | .ok (.bk l) m => ∀ r' σ' H', SR T Av r' m l σ' H' → Ext W (wd Av r' l σ' H') → D.bk σ' H'
  | .ok (.ct l) m => ∀ r' σ' H', SR T Av r' m l σ' H' → Ext W (wd Av r' l σ' H') → D.ct σ' H'
  | .ok (.rt d) m => ∀ r' H' v, SR T Av r' m [] [] H' → Ext W (wd Av r' [] [] H') → Rep T (wd Av r' [] [] H') d v → D.rt v H'
  | .ok (.ex e l) m => Xs X T Av W e l m
  | .exc _ _ => False
  | .bad => False
section
variable {X : Cx} {T : Tx} {Av : Addr → Prop} {W W1 : Wd} {l : Lo} {σ : L2.St} {H : Hp} {r : List Addr} {m : Sto} {D : Ends} {α : Type}
theorem Wps.mono {q : Res Out} (x : Ext W W1) (h : Wps X T Av W q D) : Wps X T Av W1 q D := by
  cases q with
  | ok o m =>
    cases o with
    | nx l => exact fun r' σ' H' S y => h r' σ' H' S (x.trans y)
    | bk l => exact fun r' σ' H' S y => h r' σ' H' S (x.trans y)
    | ct l => exact fun r' σ' H' S y => h r' σ' H' S (x.trans y)
    | rt d => exact fun r' H' v S y => h r' H' v S (x.trans y)
    | ex e l => exact Xs.mono (X := X) (T := T) (Av := Av) (e := e) (l := l) (m := m) x h
  | exc _ _ => exact h
  | bad => exact h
theorem Wps.lift {q : Res α} {f : α → Sto → Res Out} (h : Wps X T Av (wd Av r l σ H) (lift l q f) D) : Wpe X T Av (wd Av r l σ H) l σ q fun a m r' H' => Wps X T Av (wd Av r' l σ H') (f a m) D := by
  cases q with
  | ok a m => exact fun r' H' S x => Wps.mono x h
  | exc e m => exact h
  | bad => exact h
theorem Wps.liftO {o : Option α} {f : α → Res Out} (h : Wps X T Av W (liftO o f) D) : ∃ a, o = some a ∧ Wps X T Av W (f a) D := by
  cases o with
  | some a => exact ⟨a, rfl, h⟩
  | none => exact h.elim
theorem Wps.nx {l' : Lo} {m' : Sto} {r' : List Addr} {σ' : L2.St} {H' : Hp} (h : Wps X T Av W (.ok (.nx l') m') D) (S : SR T Av r' m' l' σ' H') (x : Ext W (wd Av r' l' σ' H')) : D.nx σ' H' := h r' σ' H' S x
/-- the turn's end -/
theorem Wps.again {q : Res Out} {k : Lo → Sto → Res Out} (h : Wps X T Av W (q.bind fun o m => again o m k) D) :
    Wps X T Av W q { D with nx := fun σ' H' => ∃ r m l, SR T Av r m l σ' H' ∧ Ext W (wd Av r l σ' H') ∧ Wps X T Av (wd Av r l σ' H') (k l m) D, ct := fun σ' H' => ∃ r m l, SR T Av r m l σ' H' ∧ Ext W (wd Av r l σ' H') ∧ Wps X T Av (wd Av r l σ' H') (k l m) D, bk := D.nx } := by
  cases q with
  | ok o m =>
    cases o with
    | nx l => exact fun r' σ' H' S y => ⟨r', m, l, S, y, Wps.mono y h⟩
    | bk l => exact h
    | ct l => exact fun r' σ' H' S y => ⟨r', m, l, S, y, Wps.mono y h⟩
    | rt d => exact h
    | ex e l => exact h
  | exc _ _ => exact h
  | bad => exact h
theorem Wps.imp {q : Res Out} {D' : Ends} (h : Wps X T Av W q D) (h1 : ∀ σ H, D.nx σ H → D'.nx σ H) (h2 : ∀ σ H, D.bk σ H → D'.bk σ H) (h3 : ∀ σ H, D.ct σ H → D'.ct σ H) (h4 : ∀ v H, D.rt v H → D'.rt v H) : Wps X T Av W q D' := by
  cases q with
  | ok o m =>
    cases o with
    | nx l => exact fun r' σ' H' S y => h1 _ _ (h r' σ' H' S y)
    | bk l => exact fun r' σ' H' S y => h2 _ _ (h r' σ' H' S y)
    | ct l => exact fun r' σ' H' S y => h3 _ _ (h r' σ' H' S y)
    | rt d => exact fun r' H' v S y z => h4 _ _ (h r' H' v S y z)
    | ex e l => exact h
  | exc _ _ => exact h
  | bad => exact h
end

section
variable (X : Cx) (T : Tx) (cal : Nat → List D → Sto → Res D)
def tS (s : S) : TS := fun D σ H => ∃ (Av : Addr → Prop) (r : List Addr) (m : Sto) (l : Lo), SR T Av r m l σ H ∧ Wps X T Av (wd Av r l σ H) (evS T.G cal s l m) D
def tSs (ss : List S) : TS := fun D σ H => ∃ (Av : Addr → Prop) (r : List Addr) (m : Sto) (l : Lo), SR T Av r m l σ H ∧ Wps X T Av (wd Av r l σ H) (evSs T.G cal ss l m) D
end
theorem PS.imp {X : Cx} {st : Stmt} {t t' : TS} (h : PS X st t) (i : ∀ D σ H, t' D σ H → t D σ H) : PS X st t' := ⟨fun pins s σ H D I hq => h.run pins s σ H D I (i D σ H hq)⟩
theorem PSs.imp {X : Cx} {st : List Stmt} {t t' : TS} (h : PSs X st t) (i : ∀ D σ H, t' D σ H → t D σ H) : PSs X st t' := ⟨fun pins s σ H D I hq => h.run pins s σ H D I (i D σ H hq)⟩

section
variable {X : Cx} {T : Tx} {cal : Nat → List D → Sto → Res D}
/-! rows of statements -/
theorem ss_nil : PSs X [] (tSs X T cal []) := by
  refine PSs.imp pss_nil fun D σ H q => ?_
  obtain ⟨Av, r, m, l, S, w⟩ := q
  exact Wps.nx (show Wps X T Av (wd Av r l σ H) (.ok (.nx l) m) D from w) S (Ext.refl _)
theorem ss_cons {s : S} {ss : List S} {st : Stmt} {sts : List Stmt} (h1 : PS X st (tS X T cal s)) (h2 : PSs X sts (tSs X T cal ss)) : PSs X (st :: sts) (tSs X T cal (s :: ss)) := by
  refine PSs.imp (pss_cons h1 h2) fun D σ H q => ?_
  obtain ⟨Av, r, m, l, S, w⟩ := q
  refine ⟨Av, r, m, l, S, ?_⟩
  have w' : Wps X T Av (wd Av r l σ H) ((evS T.G cal s l m).bind fun o m => match o with
    | .nx l => evSs T.G cal ss l m
    | o => .ok o m) D := w
  cases e : evS T.G cal s l m with
  | ok o m1 =>
    rw [e] at w'
    cases o with
    | nx l1 => exact fun r' σ' H' S' y => ⟨Av, r', m1, l1, S', Wps.mono y w'⟩
    | bk l1 => exact w'
    | ct l1 => exact w'
    | rt d => exact w'
    | ex e l1 => exact w'
  | exc _ _ => rw [e] at w'; exact w'
  | bad => rw [e] at w'; exact w'
/-- a statement that is not ours (a docstring, pass) -/
theorem ss_skip {ss : List S} {st : Stmt} {sts : List Stmt} (h1 : PS X st tNext) (h2 : PSs X sts (tSs X T cal ss)) : PSs X (st :: sts) (tSs X T cal ss) := PSs.imp (pss_cons h1 h2) fun D σ H q => q
/-- a ghost: a list of the frame's own is a value from now on -/
theorem SR.freeze {Av : Addr → Prop} {r : List Addr} {m : Sto} {l : Lo} {σ : L2.St} {H : Hp} (S : SR T Av r m l σ H) {i : Nat} {xs : List D} (e : l[i]? = some (.own xs)) :
    SR T Av r m (l.set i (.val (.lst xs))) σ H ∧ Ext (wd Av r l σ H) (wd Av r (l.set i (.val (.lst xs))) σ H) := by
  obtain ⟨a, vs, es, h1, h2, h3, h4⟩ := S.own_at e
  have ho : ∀ b, OwnAt (l.set i (.val (.lst xs))) σ b → OwnAt l σ b := fun b ⟨j, ys, e1, e2⟩ => by
    rcases getSet e1 with ⟨_, e, _⟩ | ⟨_, e1⟩
    · cases e
    · exact ⟨j, ys, e1, e2⟩
  have na : ¬ OwnAt (l.set i (.val (.lst xs))) σ a := fun ⟨j, ys, e1, e2⟩ => by
    rcases getSet e1 with ⟨_, e, _⟩ | ⟨ne, e1⟩
    · cases e
    · exact ne (S.inj j i ys xs a e1 e e2 es)
  have sm : Same2 (wd Av r l σ H) (wd Av r (l.set i (.val (.lst xs))) σ H) := Same2.slots ho
  refine ⟨⟨by rw [List.length_set]; exact S.len, S.alv, S.mlen, S.nd, S.rAv, fun n ys b e1 e2 => ?_, fun j s o e1 e2 => ?_, fun j k ys zs b e1 e2 e3 e4 => ?_⟩, Ext.slots ho⟩
  · obtain ⟨us, g1, g2⟩ := S.mem n ys b e1 e2
    exact ⟨us, g1, Reps.same sm ys us g2⟩
  · rcases getSet e1 with ⟨rfl, rfl, _⟩ | ⟨ne, e1⟩
    · rw [es] at e2
      cases e2
      exact ⟨.ref a, rfl, a, vs, rfl, .inl h1, fun z => z.elim h4 na, fun z => z.elim h3 fun z => z.elim h4 na, Reps.same sm xs vs h2⟩
    · have h := S.slot j s o e1 e2
      cases s with
      | no => trivial
      | val d =>
        obtain ⟨v, e, h⟩ := h
        exact ⟨v, e, Rep.same sm d v h⟩
      | own ys =>
        obtain ⟨b, us, e, g1, g2, g3, g4⟩ := h
        exact ⟨b, us, e, g1, Reps.same sm ys us g2, g3, g4⟩
  · rcases getSet e1 with ⟨_, e, _⟩ | ⟨_, e1⟩
    · cases e
    rcases getSet e2 with ⟨_, e, _⟩ | ⟨_, e2⟩
    · cases e
    exact S.inj j k ys zs b e1 e2 e3 e4
theorem ss_frz {i : Nat} {ss : List S} {sts : List Stmt} (h : PSs X sts (tSs X T cal ss)) : PSs X sts (tSs X T cal (.frz i :: ss)) := by
  refine PSs.imp h fun D σ H q => ?_
  obtain ⟨Av, r, m, l, S, w⟩ := q
  have w' : Wps X T Av (wd Av r l σ H) ((match l[i]? with
    | some (.own xs) => (Res.ok (.nx (l.set i (.val (.lst xs)))) m : Res Out)
    | _ => .bad).bind fun o m => match o with
    | .nx l => evSs T.G cal ss l m
    | o => .ok o m) D := w
  cases e : l[i]? with
  | none => rw [e] at w'; exact w'.elim
  | some s =>
    rw [e] at w'
    cases s with
    | no => exact w'.elim
    | val d => exact w'.elim
    | own xs =>
      obtain ⟨S1, x1⟩ := S.freeze e
      exact ⟨Av, r, m, _, S1, Wps.mono x1 w'⟩

/-! small ones -/
theorem st_pass {pos : Pos} : PS X (.Pass pos) (tS X T cal .pass) := PS.imp ps_pass fun D σ H ⟨Av, r, m, l, S, w⟩ => Wps.nx (show Wps X T Av (wd Av r l σ H) (.ok (.nx l) m) D from w) S (Ext.refl _)
theorem st_brk {pos : Pos} : PS X (.Break pos) (tS X T cal .brk) := PS.imp ps_break fun D σ H ⟨Av, r, m, l, S, w⟩ => (show Wps X T Av (wd Av r l σ H) (.ok (.bk l) m) D from w) r σ H S (Ext.refl _)
theorem st_cont {pos : Pos} : PS X (.Continue pos) (tS X T cal .cont) := PS.imp ps_continue fun D σ H ⟨Av, r, m, l, S, w⟩ => (show Wps X T Av (wd Av r l σ H) (.ok (.ct l) m) D from w) r σ H S (Ext.refl _)
theorem st_nev {st : Stmt} : PS X st (tS X T cal .nev) := PS.imp ps_never fun D σ H ⟨Av, r, m, l, S, w⟩ => (show Wps X T Av (wd Av r l σ H) .bad D from w)
/-- the frame's end -/
theorem SR.drop {Av : Addr → Prop} {r : List Addr} {m : Sto} {l : Lo} {σ : L2.St} {H : Hp} (S : SR T Av r m l σ H) : SR T Av r m [] [] H ∧ Ext (wd Av r l σ H) (wd Av r [] [] H) ∧ ∀ d v, RepB T (wd Av r l σ H) l σ d v → Rep T (wd Av r [] [] H) d v := by
  have ho : ∀ a, OwnAt [] [] a → OwnAt l σ a := fun a h => (no_own h).elim
  have sm : Same2 (wd Av r l σ H) (wd Av r [] [] H) := Same2.slots ho
  refine ⟨S.reslot rfl ho (fun i s o e => by simp at e) (fun i j xs ys a e => by simp at e), Ext.slots ho, fun d v h => ?_⟩
  rcases h with h | ⟨i, xs, a, rfl, e1, e2, rfl⟩
  · exact Rep.same sm d v h
  · obtain ⟨b, vs, e3, h1, h2, h3, h4⟩ := S.own_at e1
    rw [e2] at e3
    cases e3
    exact ⟨a, vs, rfl, .inl h1, fun z => z.elim h4 no_own, fun z => z.elim h3 fun z => z.elim h4 no_own, Reps.same sm xs vs h2⟩
theorem st_ret {e : E} {x : Expr} {pos : Pos} (h : SE T cal X e x) : PS X (.Return (some x) pos) (tS X T cal (.ret e)) := by
  refine PS.imp (ps_ret h.b) fun D σ H q => ?_
  obtain ⟨Av, r, m, l, S, w⟩ := q
  refine ⟨Av, r, m, l, S, ?_⟩
  have w' : Wps X T Av (wd Av r l σ H) (lift l (evM T.G cal e .b l m) fun d m => .ok (.rt d) m) D := w
  refine (Wps.lift w').imp fun d m1 r1 H1 _ S1 x1 w1 v hv => ?_
  obtain ⟨S2, x2, h2⟩ := S1.drop
  exact w1 r1 H1 v S2 x2 (h2 d v hv)
theorem st_retN {pos : Pos} : PS X (.Return none pos) (tS X T cal .retN) := by
  refine PS.imp ps_retN fun D σ H q => ?_
  obtain ⟨Av, r, m, l, S, w⟩ := q
  have w' : Wps X T Av (wd Av r l σ H) (.ok (.rt .non) m) D := w
  obtain ⟨S2, x2, h2⟩ := S.drop
  exact w' r H .non S2 x2 rfl
theorem st_if {c : E} {a b : List S} {x : Expr} {xs ys : List Stmt} {pos : Pos} (h : SE T cal X c x) (ha : PSs X xs (tSs X T cal a)) (hb : PSs X ys (tSs X T cal b)) : PS X (.If x xs ys pos) (tS X T cal (.ite c a b)) := by
  refine PS.imp (ps_if h.t ha hb) fun D σ H q => ?_
  obtain ⟨Av, r, m, l, S, w⟩ := q
  refine ⟨Av, r, m, l, S, ?_⟩
  have w' : Wps X T Av (wd Av r l σ H) (lift l (evM T.G cal c .t l m) fun k m => match k with
    | .bl true => evSs T.G cal a l m
    | .bl false => evSs T.G cal b l m
    | _ => .bad) D := w
  refine (Wps.lift w').imp fun d m1 r1 H1 _ S1 x1 w1 k hk => ?_
  subst hk
  cases k with
  | true =>
    rw [if_pos rfl]
    exact ⟨Av, r1, m1, l, S1, w1⟩
  | false =>
    rw [if_neg Bool.false_ne_true]
    exact ⟨Av, r1, m1, l, S1, w1⟩

/-! stores -/
def isComp : Expr → Bool
  | .ListComp .. => true
  | .SetComp .. => true
  | .DictComp .. => true
  | _ => false
theorem sw_not {x : Expr} (h : isComp x = false) (o : Option Expr) (n : Nat) (env : Env) : swapsWith x o n env = pure false := by
  cases x <;> first | rfl | cases h
def isTupD : Expr → Bool
  | .Tuple .. => true
  | _ => false
theorem sws_not {x tg : Expr} (h : isTupD x = false) (env : Env) : swappedStores [tg] x env = pure none := by
  unfold swappedStores
  cases x <;> first | exact Bool.noConfusion (show true = false from h) | (cases tg <;> rfl)
theorem st_expr {e : E} {x : Expr} {pos : Pos} (h : SE T cal X e x) (hn : isComp x = false) : PS X (.Expr x pos) (tS X T cal (.expr e)) := by
  refine PS.imp (ps_expr h.p (sw_not hn _ _ _)) fun D σ H q => ?_
  obtain ⟨Av, r, m, l, S, w⟩ := q
  refine ⟨Av, r, m, l, S, ?_⟩
  have w' : Wps X T Av (wd Av r l σ H) (lift l (evM T.G cal e .p l m) fun _ m => .ok (.nx l) m) D := w
  refine (Wps.lift w').imp fun d m1 r1 H1 _ S1 x1 w1 v hv => ?_
  exact Wps.nx w1 S1 (Ext.refl _)
theorem asg_tG {e : E} {t : Tg} {D : Ends} {σ : L2.St} {H : Hp} (q : tS X T cal (.asg t e) D σ H) : tAsg (tE X T cal .p e) (tG T t) D σ H := by
  obtain ⟨Av, r, m, l, S, w⟩ := q
  refine ⟨Av, r, m, l, S, ?_⟩
  have w' : Wps X T Av (wd Av r l σ H) (lift l (evM T.G cal e .p l m) fun d m => liftO (t.set d l) fun l' => .ok (.nx l') m) D := w
  refine (Wps.lift w').imp fun d m1 r1 H1 _ S1 x1 w1 v hv => ?_
  obtain ⟨l', e1, w2⟩ := Wps.liftO w1
  exact ⟨Av, r1, m1, l, d, l', S1, hv, e1, fun σ' P => Wps.nx w2 P.sr P.ext⟩
theorem st_asgN {e : E} {t : Tg} {x tx : Expr} {pos : Pos} (h : SE T cal X e x) (hg : PG X tx (tG T t)) (hn : isComp x = false) (ht : swappedStores [tx] x X.env = pure none) (h1 : (assignEach [tx] X.env).map (·.2) = [assign tx X.env]) : PS X (.Assign [tx] x pos) (tS X T cal (.asg t e)) :=
  PS.imp (ps_asg h.p hg (sw_not hn _ _ _) ht h1) fun D σ H q => asg_tG q
theorem st_asgT {e : E} {t : Tg} {x tx : Expr} {pos : Pos} (h : SE T cal X e x) (hg : PG X tx (tG T t)) (hn : isComp x = false) (ht : isTupD x = false) (h1 : (assignEach [tx] X.env).map (·.2) = [assign tx X.env]) : PS X (.Assign [tx] x pos) (tS X T cal (.asg t e)) :=
  PS.imp (ps_asg h.p hg (sw_not hn _ _ _) (sws_not ht _) h1) fun D σ H q => asg_tG q
theorem st_setS {e : E} {x : Expr} {i : Nat} {y : Str} {pos p2 : Pos} (h : SE T cal X e x) (hN : X.N.Nodup) (hi : X.N[i]? = some y) (hx : Loc X.env.scope y) (hf : X.fn y = true ∨ X.env.scope.names.lookup y = some .local) (hn : swapsWith x (some (.Name y p2)) pos.line X.env = pure false) :
    PS X (.Assign [.Name y p2] x pos) (tS X T cal (.asg (.name i) e)) := by
  refine PS.imp (ps_set hN hi hx h.p hn hf) fun D σ H q => ?_
  obtain ⟨Av, r, m, l, S, w⟩ := q
  refine ⟨Av, r, m, l, S, ?_⟩
  have w' : Wps X T Av (wd Av r l σ H) (lift l (evM T.G cal e .p l m) fun d m => liftO ((Tg.name i).set d l) fun l' => .ok (.nx l') m) D := w
  refine (Wps.lift w').imp fun d m1 r1 H1 _ S1 x1 w1 v hv => ?_
  exact Wps.nx (show Wps X T Av (wd Av r1 l σ H1) (.ok (.nx (l.set i (.val d))) m1) D from w1) (S1.setVal hv) Ext.setVal
theorem st_set {e : E} {x : Expr} {i : Nat} {y : Str} {pos p2 : Pos} (h : SE T cal X e x) (hN : X.N.Nodup) (hi : X.N[i]? = some y) (hx : Loc X.env.scope y) (hf : X.fn y = true ∨ X.env.scope.names.lookup y = some .local) (hn : isComp x = false) :
    PS X (.Assign [.Name y p2] x pos) (tS X T cal (.asg (.name i) e)) := st_setS h hN hi hx hf (sw_not hn _ _ _)
/-- a new list becomes the frame's own -/
theorem SR.newOwn {Av : Addr → Prop} {r : List Addr} {m : Sto} {l : Lo} {σ : L2.St} {H : Hp} {p : Addr} (S : SR T (AvP Av p) r m l σ H) (hn : ¬ Av p) {xs : List D} {vs : List V} (hp : H p = some (.lst vs)) (hr : Reps T (wd (AvP Av p) r l σ H) xs vs) (i : Nat) :
    SR T Av r m (l.set i (.own xs)) (σ.set i (some (.ref p))) H ∧ ∀ W : Wd, W.H p = none → Ext W (wd (AvP Av p) r l σ H) → Ext W (wd Av r (l.set i (.own xs)) (σ.set i (some (.ref p))) H) := by
  obtain ⟨np1, np2⟩ := SR.notP S
  have ho : ∀ a, OwnAt (l.set i (.own xs)) (σ.set i (some (.ref p))) a → a = p ∨ OwnAt l σ a := fun a ⟨j, ys, e1, e2⟩ => by
    rcases getSet e1 with ⟨rfl, _, _⟩ | ⟨ne, e1⟩
    · rcases getSet e2 with ⟨_, e, _⟩ | ⟨ne, _⟩
      · cases e
        exact .inl rfl
      · exact absurd rfl ne
    · rcases getSet e2 with ⟨e, _⟩ | ⟨_, e2⟩
      · exact absurd e ne
      · exact .inr ⟨j, ys, e1, e2⟩
  have sm : Same2 (wd (AvP Av p) r l σ H) (wd Av r (l.set i (.own xs)) (σ.set i (some (.ref p))) H) := by
    refine ⟨fun _ _ => rfl, rfl, fun x h z => h ?_, fun x h z => h ?_⟩
    · rcases z with z | z | z
      · exact .inl (.inl z)
      · exact .inr (.inl z)
      · exact (ho x z).elim (fun z => .inl (.inr z)) fun z => .inr (.inr z)
    · rcases z with z | z
      · exact .inr (.inl z)
      · exact (ho x z).elim (fun z => .inl (.inr z)) fun z => .inr (.inr z)
  refine ⟨⟨by rw [List.length_set, List.length_set]; exact S.len, fun a ha => S.alv a (.inl ha), S.mlen, S.nd, fun a ha z => S.rAv a ha (.inl z), fun n ys a e1 e2 => ?_, fun j s o e1 e2 => ?_, fun j k ys zs a e1 e2 e3 e4 => ?_⟩, ?_⟩
  · obtain ⟨us, g1, g2⟩ := S.mem n ys a e1 e2
    exact ⟨us, g1, Reps.same sm ys us g2⟩
  · rcases getSet e1 with ⟨rfl, rfl, _⟩ | ⟨ne, e1⟩
    · rcases getSet e2 with ⟨_, rfl, _⟩ | ⟨ne, _⟩
      · exact ⟨p, vs, rfl, hp, Reps.same sm xs vs hr, hn, np1⟩
      · exact absurd rfl ne
    · rcases getSet e2 with ⟨e, _⟩ | ⟨_, e2⟩
      · exact absurd e ne
      have h := S.slot j s o e1 e2
      cases s with
      | no => trivial
      | val d =>
        obtain ⟨v, e, h⟩ := h
        exact ⟨v, e, Rep.same sm d v h⟩
      | own ys =>
        obtain ⟨b, us, e, g1, g2, g3, g4⟩ := h
        exact ⟨b, us, e, g1, Reps.same sm ys us g2, fun z => g3 (.inl z), g4⟩
  · have key : ∀ {j : Nat} {ys : List D} {a : Addr}, (l.set i (.own xs))[j]? = some (.own ys) → (σ.set i (some (V.ref p)))[j]? = some (some (.ref a)) → (j = i ∧ a = p) ∨ (j ≠ i ∧ l[j]? = some (.own ys) ∧ σ[j]? = some (some (.ref a))) := fun {j ys a} f1 f2 => by
      rcases getSet f1 with ⟨e, _, _⟩ | ⟨ne, f1⟩
      · rcases getSet f2 with ⟨_, e3, _⟩ | ⟨ne, _⟩
        · cases e3
          exact .inl ⟨e, rfl⟩
        · exact absurd e ne
      · rcases getSet f2 with ⟨e, _⟩ | ⟨_, f2⟩
        · exact absurd e ne
        · exact .inr ⟨ne, f1, f2⟩
    rcases key e1 e3 with ⟨h1, h2⟩ | ⟨h1, h2, h3⟩
    · rcases key e2 e4 with ⟨h4, _⟩ | ⟨_, h5, h6⟩
      · rw [h1, h4]
      · subst h2
        exact absurd ⟨k, zs, h5, h6⟩ np2
    · rcases key e2 e4 with ⟨_, h5⟩ | ⟨_, h5, h6⟩
      · subst h5
        exact absurd ⟨j, ys, h2, h3⟩ np2
      · exact S.inj j k ys zs a h2 h5 h3 h6
  · intro W hW x
    have ne : ∀ a o, W.H a = some o → a ≠ p := fun a o h e => by rw [e, hW] at h; cases h
    refine ⟨x.keep, fun a o h n z => ?_, fun a o h n z => ?_, x.pre, x.live⟩
    · refine x.mu a o h n (z.imp id fun z => (ho a z).resolve_left (ne a o h))
    · rcases z with z | z | z
      · exact x.av a o h n (.inl (.inl z))
      · exact x.av a o h n (.inr (.inl z))
      · exact x.av a o h n (.inr (.inr ((ho a z).resolve_left (ne a o h))))
end
end Ev

set_option Elab.async false
set_option linter.all false
set_option maxRecDepth 100000
set_option maxHeartbeats 2000000
/-! Ev13: blocks: lists made and changed, loops. -/
namespace Ev
open PySem PySem.Spec PyProof.Rows L2

section
variable {X : Cx} {T : Tx} {cal : Nat → List D → Sto → Res D}
/-! lists of the frame's own -/
theorem own_tF {e : E} {i : Nat} {D : Ends} {σ : L2.St} {H : Hp} (q : tS X T cal (.own i e) D σ H) : tF X T cal e σ H fun v H' => D.nx (σ.set i (some v)) H' := by
  obtain ⟨Av, r, m, l, S, w⟩ := q
  refine ⟨Av, r, m, l, S, ?_⟩
  have w' : Wps X T Av (wd Av r l σ H) (lift l (evM T.G cal e .p l m) fun d m => match d with
    | .lst xs => .ok (.nx (l.set i (.own xs))) m
    | _ => .bad) D := w
  cases e1 : evM T.G cal e .p l m with
  | ok d m1 =>
    rw [e1] at w'
    intro xs ed p vs r' H' S3 x3 hW hn hp hr
    subst ed
    obtain ⟨S4, x4⟩ := SR.newOwn S3 hn hp hr i
    exact Wps.nx (show Wps X T Av (wd Av r l σ H) (.ok (.nx (l.set i (.own xs))) m1) D from w') S4 (x4 _ hW x3)
  | exc z m1 =>
    rw [e1] at w'
    exact w'
  | bad =>
    rw [e1] at w'
    exact w'
theorem tF_lst (hK : X.K = T.K) {es : List E} {xs : List Expr} {pos : Pos} (h : SEs T cal X es xs) : PE X (.List xs pos) (tF X T cal (.lst es)) := by
  refine PE.imp (pe_lst (h.pa (.inl rfl))) fun σ H Q q => ?_
  obtain ⟨Av, r, m, l, S, w⟩ := q
  refine ⟨Av, r, m, l, S, ?_⟩
  have w' : WpF X T Av (wd Av r l σ H) l σ ((evL T.G cal es .p l m).bind fun xs m => if xs.length ≤ sizeLine then Res.ok (D.lst xs) m else Res.bad) _ := w
  refine (WpF.bind w').imp fun ds m1 r1 H1 _ S1 x1 w1 vs hvs => ?_
  have hr := RepsM.reps hvs
  split at w1
  · rename_i hl
    refine ⟨by rw [← hr.length]; exact hl, fun p hp => ?_⟩
    obtain ⟨S2, x2⟩ := SR.avP (T := T) S1 (o := .lst vs) hp
    exact w1 ds rfl p vs r1 _ S2 x2 hp (fun z => S1.alv p z hp) upd_same (Reps.ext x2 ds vs hr)
  · exact w1.elim
theorem st_own {e : E} {x : Expr} {i : Nat} {y : Str} {pos p2 : Pos} (h : PE X x (tF X T cal e)) (hN : X.N.Nodup) (hi : X.N[i]? = some y) (hx : Loc X.env.scope y) (hf : X.fn y = true ∨ X.env.scope.names.lookup y = some .local)
    (hs : swapsWith x (some (.Name y p2)) pos.line X.env = pure false) : PS X (.Assign [.Name y p2] x pos) (tS X T cal (.own i e)) :=
  PS.imp (ps_set hN hi hx h hs hf) fun D σ H q => own_tF q
/-- what a comprehension is made of -/
structure LcOk (T : Tx) (cal : Nat → List D → Sto → Res D) (X : Cx) (elt : E) (tg : Tg) (ik : IK) (its ifs : List E) (own : List Nat) (ex tx ix : Expr) (cs : List Expr) (scope : Scope) : Prop where
  pi : PI X tx ix (tI X T cal .b ik its)
  blk : ∃ ownN : List (Str × Nat), BlkOk X.N X.env.scope scope ownN ∧ ownN.map (·.2) = own
  sl : ∀ j ∈ tg.slots, j ∈ own
  fold : ∀ v, foldedSetIterable ix X.env v = pure v
  pg : ∀ (s : Shared) (H : Hp) (C : Addr) (cl : List (Str × Addr)) (fp : List Addr), PG (X.blk s H scope (compEnvC scope cl C X.env) fp) tx (tG T tg)
  pt : ∀ (s : Shared) (H : Hp) (C : Addr) (cl : List (Str × Addr)) (fp : List Addr), PTs (X.blk s H scope (compEnvC scope cl C X.env) fp) cs (tTs (X.blk s H scope (compEnvC scope cl C X.env) fp) T cal true ifs)
  pe : ∀ (s : Shared) (H : Hp) (C : Addr) (cl : List (Str × Addr)) (fp : List Addr), PE (X.blk s H scope (compEnvC scope cl C X.env) fp) ex (tE (X.blk s H scope (compEnvC scope cl C X.env) fp) T cal .p elt)
section
variable {elt : E} {tg : Tg} {ik : IK} {its ifs : List E} {own : List Nat} {ex tx ix : Expr} {cs : List Expr} {scope : Scope} {pos : Pos}
theorem LcOk.se (hK : X.K = T.K) (hc : X.calm = true) (hN : X.N.Nodup) (h : LcOk T cal X elt tg ik its ifs own ex tx ix cs scope) : SE T cal X (.lc elt tg ik its ifs own) (.ListComp ex [⟨tx, ix, cs, 0⟩] scope pos) := by
  obtain ⟨ownN, h1, h2⟩ := h.blk
  exact se_lc hK hc hN h.pi h1 h2 h.sl h.fold h.pg h.pt h.pe
theorem LcOk.tF (hc : X.calm = true) (hN : X.N.Nodup) (h : LcOk T cal X elt tg ik its ifs own ex tx ix cs scope) : PE X (.ListComp ex [⟨tx, ix, cs, 0⟩] scope pos) (tF X T cal (.lc elt tg ik its ifs own)) := by
  obtain ⟨ownN, h1, h2⟩ := h.blk
  have h3 := pe_lc (pos := pos) (te := tE X T cal .p elt) (tt := tTs X T cal true ifs) (g := tG T tg) hc hN h.pi h1 h.pg (fun s H C cl fp => h.pt s H C cl fp) (fun s H C cl fp => h.pe s H C cl fp) h.fold
  rw [h2] at h3
  exact PE.imp h3 fun σ H Q q => lc_core2 h.sl q
/-- name = [..] where the store stands within -/
theorem LcOk.set (hc : X.calm = true) (hN : X.N.Nodup) (h : LcOk T cal X elt tg ik its ifs own ex tx ix cs scope) {i : Nat} {y : Str} {p2 spos : Pos} (hi : X.N[i]? = some y) (hy : X.env.scope.names.lookup y = some .local)
    (hsw : swapsWith (.ListComp ex [⟨tx, ix, cs, 0⟩] scope pos) (some (.Name y p2)) spos.line X.env = pure true) :
    PS X (.Assign [.Name y p2] (.ListComp ex [⟨tx, ix, cs, 0⟩] scope pos) spos) (tAsg (Ev.tF X T cal (.lc elt tg ik its ifs own)) (gName i)) := by
  obtain ⟨ownN, h1, h2⟩ := h.blk
  have h3 := ps_setLc (te := tE X T cal .p elt) (tt := tTs X T cal true ifs) (g := tG T tg) hc hN hi hy hsw h.pi h1 h.pg (fun s H C cl fp => h.pt s H C cl fp) (fun s H C cl fp => h.pe s H C cl fp) h.fold
  rw [h2] at h3
  refine PS.imp h3 fun D σ H q => lc_core2 (X := X) (T := T) (cal := cal) (Q := fun x H1 => gName i x σ H1 D.nx) h.sl q
theorem LcOk.st_own (hc : X.calm = true) (hN : X.N.Nodup) (h : LcOk T cal X elt tg ik its ifs own ex tx ix cs scope) {i : Nat} {y : Str} {p2 spos : Pos} (hi : X.N[i]? = some y) (hy : X.env.scope.names.lookup y = some .local)
    (hsw : swapsWith (.ListComp ex [⟨tx, ix, cs, 0⟩] scope pos) (some (.Name y p2)) spos.line X.env = pure true) : PS X (.Assign [.Name y p2] (.ListComp ex [⟨tx, ix, cs, 0⟩] scope pos) spos) (tS X T cal (.own i (.lc elt tg ik its ifs own))) :=
  PS.imp (h.set hc hN hi hy hsw) fun D σ H q => own_tF q
theorem LcOk.st_set (hc : X.calm = true) (hN : X.N.Nodup) (h : LcOk T cal X elt tg ik its ifs own ex tx ix cs scope) {i : Nat} {y : Str} {p2 spos : Pos} (hi : X.N[i]? = some y) (hy : X.env.scope.names.lookup y = some .local)
    (hsw : swapsWith (.ListComp ex [⟨tx, ix, cs, 0⟩] scope pos) (some (.Name y p2)) spos.line X.env = pure true) : PS X (.Assign [.Name y p2] (.ListComp ex [⟨tx, ix, cs, 0⟩] scope pos) spos) (tS X T cal (.asg (.name i) (.lc elt tg ik its ifs own))) := by
  refine PS.imp (h.set hc hN hi hy hsw) fun D σ H q => tF.of ?_
  obtain ⟨Av, r, m, l, S, w⟩ := q
  refine ⟨Av, r, m, l, S, ?_⟩
  have w' : Wps X T Av (wd Av r l σ H) (lift l (evM T.G cal (.lc elt tg ik its ifs own) .p l m) fun d m => liftO ((Tg.name i).set d l) fun l' => .ok (.nx l') m) D := w
  refine (Wps.lift w').imp fun d m1 r1 H1 _ S1 x1 w1 v hv => ?_
  exact Wps.nx (show Wps X T Av (wd Av r1 l σ H1) (.ok (.nx (l.set i (.val d))) m1) D from w1) (S1.setVal hv) Ext.setVal
end

/-! places -/
def PlAt (p : Pl) (a : Addr) (r : List Addr) (l : Lo) (σ : L2.St) : Prop := match p with
  | .sl i => (∃ xs, l[i]? = some (.own xs)) ∧ σ[i]? = some (some (.ref a))
  | .lc n => r[n]? = some a
def tP (X : Cx) (T : Tx) (cal : Nat → List D → Sto → Res D) (o : E) : TE := fun σ H Q => ∃ (Av : Addr → Prop) (r : List Addr) (m : Sto) (l : Lo), SR T Av r m l σ H ∧
  Wpe X T Av (wd Av r l σ H) l σ (plE T.G cal o l m) fun p m' r' H' => ∀ a, PlAt p a r' l σ → Q (.ref a) H'
theorem pl_var {i : Nat} {x : Str} {pos : Pos} (hN : X.N[i]? = some x) (hv : Vis X.env.scope x) (hd : (x == ("__debug__" : Str)) = false) (hcd : (x == ("__classdict__" : Str)) = false) : PE X (.Name x pos) (tP X T cal (.var i)) := by
  refine PE.imp (pe_var (i := i) hN hv hd hcd) fun σ H Q q => ?_
  obtain ⟨Av, r, m, l, S, w⟩ := q
  have w' : Wpe X T Av (wd Av r l σ H) l σ (match l[i]? with
    | some (.own _) => .ok (.sl i) m
    | some (.val (.loc n)) => .ok (.lc n) m
    | _ => .bad) (fun p m' r' H' => ∀ a, PlAt p a r' l σ → Q (.ref a) H') := w
  cases e : l[i]? with
  | none => rw [e] at w'; exact w'.elim
  | some s =>
    rw [e] at w'
    cases s with
    | no => exact w'.elim
    | own xs =>
      obtain ⟨a, vs, e1, _⟩ := S.own_at e
      exact ⟨.ref a, e1, Wpe.ok w' S a ⟨⟨xs, e⟩, e1⟩⟩
    | val d =>
      cases d with
      | loc n =>
        obtain ⟨o, e1, v, rfl, a, rfl, h⟩ := S.sig e
        exact ⟨.ref a, e1, Wpe.ok w' S a h⟩
      | _ => exact w'.elim
def E.isVar : E → Bool
  | .var _ => true
  | _ => false
theorem pl_any {o : E} {x : Expr} (h : SE T cal X o x) (hv : o.isVar = false) : PE X x (tP X T cal o) := by
  refine PE.imp h.p fun σ H Q q => ?_
  obtain ⟨Av, r, m, l, S, w⟩ := q
  refine ⟨Av, r, m, l, S, ?_⟩
  have w' : Wpe X T Av (wd Av r l σ H) l σ ((evM T.G cal o .p l m).bind fun d m => match d with
    | .loc n => .ok (.lc n) m
    | _ => .bad) (fun p m' r' H' => ∀ a, PlAt p a r' l σ → Q (.ref a) H') := by
    cases o with
    | var i => exact Bool.noConfusion (show true = false from hv)
    | _ => exact w
  refine (Wpe.bind w').imp fun d m1 r1 H1 _ S1 x1 w1 v hv => ?_
  cases d with
  | loc n =>
    obtain ⟨a, rfl, ha⟩ := hv
    exact Wpe.ok w1 S1 a ha
  | _ => exact w1.elim
section
variable {Av : Addr → Prop} {r r' : List Addr} {m : Sto} {l : Lo} {σ : L2.St} {H H' : Hp} {p : Pl} {a : Addr}
theorem PlAt.ext (h : PlAt p a r l σ) (x : Ext (wd Av r l σ H) (wd Av r' l σ H')) : PlAt p a r' l σ := by
  cases p with
  | sl i => exact h
  | lc n => exact x.pre n a h
theorem PlAt.list (S : SR T Av r m l σ H) (h : PlAt p a r l σ) : ∃ vs, H a = some (.lst vs) := by
  cases p with
  | sl i =>
    obtain ⟨⟨xs, e⟩, es⟩ := h
    obtain ⟨b, vs, e1, h1, _⟩ := S.own_at e
    rw [es] at e1
    cases e1
    exact ⟨vs, h1⟩
  | lc n => exact S.loc_at (List.mem_of_getElem? h)
theorem PlAt.xs (S : SR T Av r m l σ H) (h : PlAt p a r l σ) {xs : List D} (e : p.xs l m = some xs) : ∃ vs, H a = some (.lst vs) ∧ Reps T (wd Av r l σ H) xs vs := by
  cases p with
  | sl i =>
    obtain ⟨⟨ys, e1⟩, es⟩ := h
    have e : (match l[i]? with
      | some (.own xs) => some xs
      | _ => none) = some xs := e
    rw [e1] at e
    cases e
    obtain ⟨b, vs, e2, h1, h2, _⟩ := S.own_at e1
    rw [es] at e2
    cases e2
    exact ⟨vs, h1, h2⟩
  | lc n =>
    have e : (match m[n]? with
      | some (.lst xs) => some xs
      | none => none) = some xs := e
    cases em : m[n]? with
    | none => rw [em] at e; cases e
    | some o =>
      cases o with
      | lst ys =>
        rw [em] at e
        cases e
        exact S.mem n xs a em h
/-- the list at a place is changed -/
theorem SR.putPl (S : SR T Av r m l σ H) (h : PlAt p a r l σ) {ys : List D} {us : List V} (hr : Reps T (wd Av r l σ H) ys us) :
    SR T Av r (p.put ys l m).2 (p.put ys l m).1 σ (upd H a (.lst us)) ∧ Ext (wd Av r l σ H) (wd Av r (p.put ys l m).1 σ (upd H a (.lst us))) ∧ Same2 (wd Av r l σ H) (wd Av r (p.put ys l m).1 σ (upd H a (.lst us))) := by
  have hM : a ∈ r ∨ OwnAt l σ a := by
    cases p with
    | sl i =>
      obtain ⟨⟨xs, e⟩, es⟩ := h
      exact .inr ⟨i, xs, e, es⟩
    | lc n => exact .inl (List.mem_of_getElem? h)
  have hA : (wd Av r l σ H).A a := .inr hM
  have ho : ∀ b, OwnAt (p.put ys l m).1 σ b → OwnAt l σ b := by
    cases p with
    | sl i =>
      obtain ⟨⟨xs, e⟩, es⟩ := h
      rintro b ⟨j, zs, e1, e2⟩
      rcases getSet (show (l.set i (.own ys))[j]? = some (.own zs) from e1) with ⟨rfl, _, _⟩ | ⟨_, e1⟩
      · exact ⟨j, xs, e, e2⟩
      · exact ⟨j, zs, e1, e2⟩
    | lc n => exact fun b h => h
  have sm : Same2 (wd Av r l σ H) (wd Av r (p.put ys l m).1 σ (upd H a (.lst us))) :=
    ⟨fun x n => upd_ne fun e => n (by rw [e]; exact hA), rfl, fun x n z => n (z.imp id fun z => z.imp id (ho x)), fun x n z => n (.inr (z.imp id (ho x)))⟩
  have nAv : ¬ Av a := by
    cases p with
    | sl i =>
      obtain ⟨⟨xs, e⟩, es⟩ := h
      obtain ⟨b, vs, e1, _, _, h3, _⟩ := S.own_at e
      rw [es] at e1
      cases e1
      exact h3
    | lc n => exact S.rAv a (List.mem_of_getElem? h)
  refine ⟨?_, ⟨fun b o hb n => ?_, fun b o hb n z => n (z.imp id (ho b)), fun b o hb n z => n (z.imp id fun z => z.imp id (ho b)), fun n b h => h, fun b o hb => ?_⟩, sm⟩
  · cases p with
    | sl i =>
      obtain ⟨⟨xs, e⟩, es⟩ := h
      obtain ⟨a', vs, e1, h1, h2, h3, h4⟩ := S.own_at e
      rw [es] at e1
      cases e1
      refine ⟨by show (l.set i (.own ys)).length = _; rw [List.length_set]; exact S.len, fun b hb => ?_, S.mlen, S.nd, S.rAv, fun n zs b e1 e2 => ?_, fun j s o e1 e2 => ?_, fun j k zs ws b e1 e2 e3 e4 => ?_⟩
      · rw [upd_ne fun e => nAv (by rw [← e]; exact hb)]
        exact S.alv b hb
      · obtain ⟨vs', g1, g2⟩ := S.mem n zs b e1 e2
        exact ⟨vs', by rw [upd_ne fun e => h4 (by rw [← e]; exact List.mem_of_getElem? e2)]; exact g1, Reps.same sm zs vs' g2⟩
      · rcases getSet (show (l.set i (.own ys))[j]? = some s from e1) with ⟨rfl, rfl, _⟩ | ⟨ne, e1⟩
        · rw [es] at e2
          cases e2
          exact ⟨a, us, rfl, upd_same, Reps.same sm ys us hr, h3, h4⟩
        · have h := S.slot j s o e1 e2
          cases s with
          | no => trivial
          | val d =>
            obtain ⟨v, e, h⟩ := h
            exact ⟨v, e, Rep.same sm d v h⟩
          | own zs =>
            obtain ⟨b, ws, e7, g1, g2, g3, g4⟩ := h
            subst e7
            refine ⟨b, ws, rfl, ?_, Reps.same sm zs ws g2, g3, g4⟩
            show upd H a (.lst us) b = _
            rw [upd_ne fun e8 => ne (S.inj j i zs xs a e1 e (by rw [e2, e8]) es)]
            exact g1
      · have key : ∀ {j : Nat} {zs : List D}, (l.set i (.own ys))[j]? = some (.own zs) → ∃ ws, l[j]? = some (.own ws) := fun {j zs} f => by
          rcases getSet f with ⟨rfl, _, _⟩ | ⟨_, f⟩
          · exact ⟨xs, e⟩
          · exact ⟨zs, f⟩
        obtain ⟨_, f1⟩ := key e1
        obtain ⟨_, f2⟩ := key e2
        exact S.inj j k _ _ b f1 f2 e3 e4
    | lc n =>
      have har : a ∈ r := List.mem_of_getElem? h
      refine ⟨S.len, fun b hb => ?_, by show r.length = (m.set n (.lst ys)).length; rw [List.length_set]; exact S.mlen, S.nd, S.rAv, fun k zs b e1 e2 => ?_, fun j s o e1 e2 => ?_, S.inj⟩
      · rw [upd_ne fun e => nAv (by rw [← e]; exact hb)]
        exact S.alv b hb
      · rcases getSet (show (m.set n (.lst ys))[k]? = some (.lst zs) from e1) with ⟨rfl, e3, _⟩ | ⟨ne, e1⟩
        · cases e3
          have h : r[k]? = some a := h
          rw [h] at e2
          cases e2
          exact ⟨us, upd_same, Reps.same sm ys us hr⟩
        · obtain ⟨vs', g1, g2⟩ := S.mem k zs b e1 e2
          refine ⟨vs', ?_, Reps.same sm zs vs' g2⟩
          rw [upd_ne fun e => ?_]
          · exact g1
          · subst e
            have h : r[n]? = some b := h
            have hk := (List.getElem?_eq_some_iff.mp e2).1
            exact ne ((List.getElem?_inj hk S.nd).mp (e2.trans h.symm))
      · have h := S.slot j s o e1 e2
        cases s with
        | no => trivial
        | val d =>
          obtain ⟨v, e, h⟩ := h
          exact ⟨v, e, Rep.same sm d v h⟩
        | own zs =>
          obtain ⟨b, ws, e7, g1, g2, g3, g4⟩ := h
          subst e7
          refine ⟨b, ws, rfl, ?_, Reps.same sm zs ws g2, g3, g4⟩
          show upd H a (.lst us) b = _
          rw [upd_ne fun e8 => g4 (by rw [e8]; exact har)]
          exact g1
  · show upd H a (.lst us) b = some o
    rw [upd_ne fun e => n (by rw [e]; exact hM)]
    exact hb
  · by_cases e : b = a
    · exact ⟨_, by rw [e]; exact upd_same⟩
    · exact ⟨o, by show upd H a (.lst us) b = some o; rw [upd_ne e]; exact hb⟩
end

/-- o[i] = e -/
def notSlice : Expr → Bool
  | .Slice .. => false
  | _ => true
theorem ix_not {o i : Expr} {pos : Pos} {env : Env} (h : notSlice i = true) : ∀ v, assign (.Subscript o i pos) env v = (do
      let ov ← holding [v] (eval o env)
      let iv ← holding [v, ov] (eval i env)
      standAt pos
      holding [v, ov, iv] (setItem ov iv v)
      release [v, ov, iv] []) := by
  intro v
  cases i <;> first | rfl | exact Bool.noConfusion (show false = true from h)
theorem st_setI {o i e : E} {ox ix ex : Expr} {pos p2 : Pos} (ho : PE X ox (tP X T cal o)) (hi : SE T cal X i ix) (he : SE T cal X e ex) (hn : isComp ex = false) (hs : notSlice ix = true) :
    PS X (.Assign [.Subscript ox ix p2] ex pos) (tS X T cal (.setI o i e)) := by
  have hsw : swapsWithSole [.Subscript ox ix p2] ex pos.line X.env = pure false := sw_not hn (some (.Subscript ox ix p2)) pos.line X.env
  have hst : swappedStores [.Subscript ox ix p2] ex X.env = pure none := by cases ex <;> rfl
  refine PS.imp (ps_asg he.p (pg_sub ho hi.p set_list (ix_not hs)) hsw hst rfl) fun D σ H q => ?_
  obtain ⟨Av, r, m, l, S, w⟩ := q
  refine ⟨Av, r, m, l, S, ?_⟩
  have w' : Wps X T Av (wd Av r l σ H) (lift l (evM T.G cal e .p l m) fun d m => lift l (plE T.G cal o l m) fun p m => lift l (evM T.G cal i .p l m) fun j m => match j with
    | .int j => liftO (p.xs l m) fun xs => liftO (L2.ixN xs.length j) fun n => .ok (.nx (p.put (xs.set n d) l m).1) (p.put (xs.set n d) l m).2
    | _ => .bad) D := w
  refine (Wps.lift w').imp fun d m1 r1 H1 _ S1 x1 w1 v hv => ?_
  refine ⟨Av, r1, m1, l, S1, (Wps.lift w1).imp fun p m2 r2 H2 _ S2 x2 w2 a ha => ?_⟩
  refine ⟨Av, r2, m2, l, S2, (Wps.lift w2).imp fun j m3 r3 H3 _ S3 x3 w3 u hu => ?_⟩
  cases j with
  | int j =>
    obtain ⟨xs, e1, w4⟩ := Wps.liftO w3
    obtain ⟨n, e2, w5⟩ := Wps.liftO w4
    have ha3 := ha.ext x3
    obtain ⟨vs, g1, g2⟩ := ha3.xs S3 e1
    have hv3 : Rep T (wd Av r3 l σ H3) d v := Rep.ext x3 d v (Rep.ext x2 d v hv)
    obtain ⟨S4, x4, _⟩ := S3.putPl ha3 (Reps.set n g2 hv3)
    refine ⟨a, vs, j, n, rfl, hu, g1, by rw [← g2.length]; exact e2, ?_⟩
    exact Wps.nx w5 S4 x4
  | _ => exact w3.elim
theorem tyL {H : Hp} {a : Addr} {vs : List V} (h : H a = some (.lst vs)) : tyV X.K "list" (.ref a) H := .inl ⟨rfl, vs, .inl (.inl h)⟩
/-- a method that gives None -/
theorem st_meth {b : Mth} {o : E} {as : List E} {ox : Expr} {xs : List Expr} {name : Str} {id : String} {r : V → List V → Hp → VK → Prop} {apos cpos pos : Pos} (slot : Slot "list" name id) (hty : typeOf (.builtin id) = pure (.type "method_descriptor")) (hm : MtR X id r)
    (ho : PE X ox (tP X T cal o)) (ha : SEs T cal X as xs) (hbase : attributeBase ox name X.env (eval ox X.env) = eval ox X.env) (hline : (apos.endLine == cpos.line) = true) (hlen : xs.length < 30)
    (hr : ∀ {Av : Addr → Prop} {r1 : List Addr} {m : Sto} {l : Lo} {σ : L2.St} {H : Hp} {a : Addr} {us vs : List V} {ds ys zs : List D} {Q : VK}, SR T Av r1 m l σ H → H a = some (.lst us) → Reps T (wd Av r1 l σ H) ys us → RepsM T (wd Av r1 l σ H) l σ (mthMd b) ds vs → dMth b ys ds = some zs →
      (∀ ws, Reps T (wd Av r1 l σ H) zs ws → Q .non (upd H a (.lst ws))) → r (.ref a) vs H Q) :
    PS X (.Expr (.Call (.Attribute ox name apos) xs [] cpos) pos) (tS X T cal (.meth b o as)) := by
  have step : ∀ {D : Ends} {σ : L2.St} {H : Hp}, tS X T cal (.meth b o as) D σ H → tP X T cal o σ H fun x H1 => tyV X.K "list" x H1 ∧ tL X T cal (mthMd b) as σ H1 fun vs H2 => r x vs H2 fun _ H3 => D.nx σ H3 := by
    intro D σ H q
    obtain ⟨Av, r0, m, l, S, w⟩ := q
    refine ⟨Av, r0, m, l, S, ?_⟩
    have w' : Wps X T Av (wd Av r0 l σ H) (lift l (plE T.G cal o l m) fun p m => lift l (evL T.G cal as (mthMd b) l m) fun as m => liftO (p.xs l m) fun xs => liftO (dMth b xs as) fun ys =>
      .ok (.nx (p.put ys l m).1) (p.put ys l m).2) D := w
    refine (Wps.lift w').imp fun p m1 r1 H1 _ S1 x1 w1 a ha => ?_
    obtain ⟨us, hus⟩ := ha.list S1
    refine ⟨tyL hus, Av, r1, m1, l, S1, (Wps.lift w1).imp fun ds m2 r2 H2 _ S2 x2 w2 vs hvs => ?_⟩
    obtain ⟨ys, e1, w3⟩ := Wps.liftO w2
    obtain ⟨zs, e2, w4⟩ := Wps.liftO w3
    have ha2 := ha.ext x2
    obtain ⟨us2, g1, g2⟩ := ha2.xs S2 e1
    refine hr S2 g1 g2 hvs e2 fun ws hws => ?_
    obtain ⟨S4, x4, _⟩ := S2.putPl ha2 hws
    exact Wps.nx w4 S4 x4
  have hm2 : mthMd b = .p ∨ mthMd b = .b := by cases b <;> first | exact .inl rfl | exact .inr rfl
  cases ha with
  | nil =>
    refine PS.imp (ps_expr (pe_bm0 PySem.F.plainAttrs_list slot hty hm ho hbase hline) rfl) fun D σ H q => ?_
    obtain ⟨Av, r0, m, l, S, w⟩ := step q
    refine ⟨Av, r0, m, l, S, w.imp fun p m1 r1 H1 _ S1 x1 w1 a ha => ?_⟩
    obtain ⟨h1, h2⟩ := w1 a ha
    exact ⟨h1, tL_nil h2⟩
  | cons h1 t =>
    rename_i e1 x1 es1 xs1
    refine PS.imp (ps_expr (pe_bm PySem.F.plainAttrs_list slot hty hm ho ((SEs.cons h1 t).pa hm2) hbase ?_ hline (h1.lt.star _ _) (by rw [backTo_any]; exact t.star _)) rfl) fun D σ H q => step q
    rw [Bool.and_eq_true, Bool.and_eq_true]
    refine ⟨⟨?_, rfl⟩, ?_⟩
    · have h2 : (backTo cpos (starEach (x1 :: xs1) X.env)).any (·.1) = false := by
        rw [backTo_any]
        exact (SEs.cons h1 t).star X.env
      rw [List.all_eq_true]
      intro z hz
      rw [List.any_eq_false] at h2
      have := h2 z hz
      simpa using this
    · exact decide_eq_true (by simpa using hlen)
theorem st_append {o : E} {as : List E} {ox : Expr} {xs : List Expr} {apos cpos pos : Pos} (ho : PE X ox (tP X T cal o)) (ha : SEs T cal X as xs) (hbase : attributeBase ox "append" X.env (eval ox X.env) = eval ox X.env) (hline : (apos.endLine == cpos.line) = true) (hlen : xs.length < 30) :
    PS X (.Expr (.Call (.Attribute ox "append" apos) xs [] cpos) pos) (tS X T cal (.meth .append o as)) := by
  refine st_meth PySem.F.slot_list_append PySem.F.type_list_append mt_append ho ha hbase hline hlen ?_
  intro Av r1 m l σ H a us vs ds ys zs Q S h1 h2 h3 h4 h5
  match ds, h4, h3 with
  | [d], h4, h3 =>
    obtain ⟨hl, rfl⟩ := ite_some (show (if ys.length < sizeLine then some (ys ++ [d]) else none) = some zs from h4)
    obtain ⟨v, rfl, hv⟩ := RepsM.one h3
    exact ⟨a, us, v, rfl, rfl, h1, by rw [← h2.length]; exact hl, h5 _ (Reps.append h2 (Reps.cons hv Reps.nil))⟩
theorem st_reverse {o : E} {as : List E} {ox : Expr} {xs : List Expr} {apos cpos pos : Pos} (ho : PE X ox (tP X T cal o)) (ha : SEs T cal X as xs) (hbase : attributeBase ox "reverse" X.env (eval ox X.env) = eval ox X.env) (hline : (apos.endLine == cpos.line) = true) (hlen : xs.length < 30) :
    PS X (.Expr (.Call (.Attribute ox "reverse" apos) xs [] cpos) pos) (tS X T cal (.meth .reverse o as)) := by
  refine st_meth PySem.F.slot_list_reverse PySem.F.type_list_reverse mt_reverse ho ha hbase hline hlen ?_
  intro Av r1 m l σ H a us vs ds ys zs Q S h1 h2 h3 h4 h5
  match ds, h4, h3 with
  | [], h4, h3 =>
    cases (show some ys.reverse = some zs from h4)
    cases (show _ = [] from h3)
    exact ⟨a, us, rfl, rfl, h1, h5 _ (Reps.reverse h2)⟩
theorem st_insert {o : E} {as : List E} {ox : Expr} {xs : List Expr} {apos cpos pos : Pos} (ho : PE X ox (tP X T cal o)) (ha : SEs T cal X as xs) (hbase : attributeBase ox "insert" X.env (eval ox X.env) = eval ox X.env) (hline : (apos.endLine == cpos.line) = true) (hlen : xs.length < 30) :
    PS X (.Expr (.Call (.Attribute ox "insert" apos) xs [] cpos) pos) (tS X T cal (.meth .insert o as)) := by
  refine st_meth PySem.F.slot_list_insert PySem.F.type_list_insert mt_insert ho ha hbase hline hlen ?_
  intro Av r1 m l σ H a us vs ds ys zs Q S h1 h2 h3 h4 h5
  match ds, h4, h3 with
  | [.int i, d], h4, h3 =>
    obtain ⟨⟨g0, g1, g2⟩, rfl⟩ := ite_some (show (if 0 ≤ i ∧ i ≤ ys.length ∧ ys.length < sizeLine then some (ys.take i.toNat ++ d :: ys.drop i.toNat) else none) = some zs from h4)
    obtain ⟨v, u, rfl, hv, hu⟩ := RepsM.two h3
    cases (show v = .int i from hv)
    have hl := h2.length
    refine ⟨a, us, i, u, rfl, rfl, h1, by rw [← hl]; exact g2, g0, ?_, h5 _ ?_⟩
    · have : sizeLine < 2 ^ 62 := by decide
      omega
    · rw [List.append_assoc]
      exact Reps.append (h2.take _) (Reps.cons hu (h2.drop _))
end
end Ev

set_option Elab.async false
set_option linter.all false
set_option maxRecDepth 100000
set_option maxHeartbeats 2000000
/-! Ev14: blocks: loops, pairs, pop. -/
namespace Ev
open PySem PySem.Spec PyProof.Rows L2

section
variable {X : Cx} {T : Tx} {cal : Nat → List D → Sto → Res D}
theorem OwnOk.nil {σ : L2.St} {l' : Lo} {σ' : L2.St} : OwnOk [] σ l' σ' := fun i xs e => by simp at e
theorem st_for {tg : Tg} {ik : IK} {its : List E} {body : List S} {tx ix : Expr} {sts : List Stmt} {pos : Pos} (hp : PassesOwn (model X.prog X.w) X.A X.env X.xe) (hc : X.calm = true) (hi : PI X tx ix (tI X T cal .p ik its)) (hg : PG X tx (tG T tg)) (hb : PSs X sts (tSs X T cal body))
    (hf : ∀ v, foldedSetIterable ix X.env v = pure v) : PS X (.For tx ix sts [] pos) (tS X T cal (.for tg ik its body)) := by
  refine PS.imp (ps_for hp hc hi hg hb hf) fun D σ H q => ?_
  obtain ⟨Av, r, m, l, S, w⟩ := q
  refine ⟨Av, r, m, l, S, ?_⟩
  have w' : Wps X T Av (wd Av r l σ H) (lift l (evL T.G cal its .p l m) fun xs m => liftO (dIter ik xs) fun ds => forL tg (evSs T.G cal body) ds l m) D := w
  refine (Wps.lift w').imp fun xs m1 r1 H1 _ S1 x1 w1 => ?_
  obtain ⟨ds, eds, w2⟩ := Wps.liftO w1
  refine ⟨ds, eds, fun J _ PJ => ?_⟩
  have PJ : Pres T (wd Av r1 l σ H1) [] σ J ds := PJ
  let In : Nat → L2.St → Hp → Prop := fun i σ' H' => i ≤ ds.length ∧ ∃ (r' : List Addr) (m' : Sto) (l' : Lo), SR T Av r' m' l' σ' H' ∧ Ext (wd Av r1 l σ H1) (wd Av r' l' σ' H') ∧ Wps X T Av (wd Av r' l' σ' H') (forL tg (evSs T.G cal body) (ds.drop i) l' m') D
  refine ⟨fun i n σ' H' => n = ds.length - i ∧ In i σ' H', ⟨ds.length, by simp, Nat.zero_le _, r1, m1, l, S1, Ext.refl _, by rw [List.drop_zero]; exact w2⟩, ?_⟩
  rintro i n σ2 H2 ⟨rfl, hi2, r2, m2, l2, S2, x2, w3⟩
  by_cases hlt : i < ds.length
  case neg =>
    have hie : i = ds.length := by omega
    subst hie
    rw [List.drop_length] at w3
    exact .inl ⟨PJ.stop S2 x2 OwnOk.nil, Wps.nx (show Wps X T Av (wd Av r2 l2 σ2 H2) (.ok (.nx l2) m2) D from w3) S2 (Ext.refl _)⟩
  refine .inr ⟨PJ.go i S2 x2 OwnOk.nil hlt, In (i + 1), fun σ' H' h => ⟨ds.length - (i + 1), by omega, rfl, h⟩, fun x H3 hy => ?_⟩
  obtain ⟨S4, x4, d, hd, hx⟩ := PJ.yld i x H3 S2 x2 OwnOk.nil hy hlt
  have edrop : ds.drop i = d :: ds.drop (i + 1) := by
    rw [List.drop_eq_getElem_cons hlt]
    rw [List.getElem?_eq_getElem hlt] at hd
    rw [Option.some.inj hd]
  rw [edrop] at w3
  obtain ⟨l3, etg, w4⟩ := Wps.liftO (show Wps X T Av (wd Av r2 l2 σ2 H2) (liftO (tg.set d l2) fun l' => (evSs T.G cal body l' m2).bind fun o m => again o m fun l m => forL tg (evSs T.G cal body) (ds.drop (i + 1)) l m) D from w3)
  refine ⟨Av, r2, m2, l2, d, l3, S4, hx, etg, fun σ' P => ⟨Av, r2, m2, l3, P.sr, ?_⟩⟩
  have x5 : Ext (wd Av r2 l2 σ2 H2) (wd Av r2 l3 σ' H3) := x4.trans P.ext
  refine ((Wps.mono x5 w4).again).imp (fun σ6 H6 h => ?_) (fun _ _ h => h) (fun σ6 H6 h => ?_) fun _ _ h => h
  · obtain ⟨r6, m6, l6, S6, x6, w6⟩ := h
    exact ⟨hlt, r6, m6, l6, S6, (x2.trans x5).trans x6, w6⟩
  · obtain ⟨r6, m6, l6, S6, x6, w6⟩ := h
    exact ⟨hlt, r6, m6, l6, S6, (x2.trans x5).trans x6, w6⟩
theorem st_while {c : E} {body : List S} {x : Expr} {sts : List Stmt} {pos : Pos} (hp : PassesOwn (model X.prog X.w) X.A X.env X.xe) (h : SE T cal X c x) (hb : PSs X sts (tSs X T cal body)) : PS X (.While x sts [] pos) (tS X T cal (.whl c body)) := by
  refine PS.imp (ps_while hp h.t hb) fun D σ H q => ?_
  obtain ⟨Av, r, m, l, S, w⟩ := q
  have w' : Wps X T Av (wd Av r l σ H) (whlL (evM T.G cal c .t) (evSs T.G cal body) T.G.W l m) D := w
  refine ⟨fun n σ' H' => ∃ (r' : List Addr) (m' : Sto) (l' : Lo), SR T Av r' m' l' σ' H' ∧ Wps X T Av (wd Av r' l' σ' H') (whlL (evM T.G cal c .t) (evSs T.G cal body) n l' m') D, ⟨T.G.W, r, m, l, S, w'⟩, ?_⟩
  rintro n σ2 H2 ⟨r2, m2, l2, S2, w2⟩
  cases n with
  | zero => exact w2.elim
  | succ n =>
    have w3 : Wps X T Av (wd Av r2 l2 σ2 H2) (lift l2 (evM T.G cal c .t l2 m2) fun k m => match k with
      | .bl true => (evSs T.G cal body l2 m).bind fun o m => again o m fun l m => whlL (evM T.G cal c .t) (evSs T.G cal body) n l m
      | .bl false => .ok (.nx l2) m
      | _ => .bad) D := w2
    refine ⟨Av, r2, m2, l2, S2, (Wps.lift w3).imp fun d m4 r4 H4 _ S4 x4 w4 b hb => ?_⟩
    subst hb
    cases b with
    | false =>
      rw [if_neg Bool.false_ne_true]
      exact Wps.nx w4 S4 (Ext.refl _)
    | true =>
      rw [if_pos rfl]
      refine ⟨fun σ' H' => ∃ (r' : List Addr) (m' : Sto) (l' : Lo), SR T Av r' m' l' σ' H' ∧ Wps X T Av (wd Av r' l' σ' H') (whlL (evM T.G cal c .t) (evSs T.G cal body) n l' m') D, fun σ' H' h => ⟨n, Nat.lt_succ_self n, h⟩, Av, r4, m4, l2, S4, ?_⟩
      refine (Wps.again w4).imp (fun σ6 H6 h => ?_) (fun _ _ h => h) (fun σ6 H6 h => ?_) fun _ _ h => h
      · obtain ⟨r6, m6, l6, S6, x6, w6⟩ := h
        exact ⟨r6, m6, l6, S6, w6⟩
      · obtain ⟨r6, m6, l6, S6, x6, w6⟩ := h
        exact ⟨r6, m6, l6, S6, w6⟩
/-- over the list at a location, which the body may change -/
theorem st_forM (hK : X.K = T.K) {tg : Tg} {e : E} {body : List S} {tx ix : Expr} {sts : List Stmt} {pos : Pos} (hp : PassesOwn (model X.prog X.w) X.A X.env X.xe) (hc : X.calm = true) (hi : SE T cal X e ix) (hg : PG X tx (tG T tg)) (hb : PSs X sts (tSs X T cal body)) : PS X (.For tx ix sts [] pos) (tS X T cal (.forM tg e body)) := by
  refine PS.imp (ps_for hp hc (pi_seq hi.p) hg hb (hi.lt.fold _)) fun D σ H q => ?_
  obtain ⟨Av, r, m, l, S, w⟩ := q
  refine ⟨Av, r, m, l, S, ?_⟩
  have w' : Wps X T Av (wd Av r l σ H) (lift l (evM T.G cal e .p l m) fun d m => match d with
    | .loc n => forML tg n (evSs T.G cal body) T.G.W 0 l m
    | _ => .bad) D := w
  refine (Wps.lift w').imp fun d m1 r1 H1 _ S1 x1 w1 v hv => ?_
  cases d with
  | loc n =>
    obtain ⟨a, rfl, ha⟩ := hv
    have ha : r1[n]? = some a := ha
    have w2 : Wps X T Av (wd Av r1 l σ H1) (forML tg n (evSs T.G cal body) T.G.W 0 l m1) D := w1
    obtain ⟨us, hus⟩ := S1.loc_at (List.mem_of_getElem? ha)
    refine ⟨a, rfl, .inl ⟨⟨us, .inl (.inl hus)⟩, ?_⟩⟩
    rw [hK]
    let In : Nat → Nat → L2.St → Hp → Prop := fun i n' σ' H' => ∃ (r' : List Addr) (m' : Sto) (l' : Lo), SR T Av r' m' l' σ' H' ∧ r'[n]? = some a ∧ Wps X T Av (wd Av r' l' σ' H') (forML tg n (evSs T.G cal body) n' i l' m') D
    refine ⟨In, ⟨T.G.W, r1, m1, l, S1, ha, w2⟩, ?_⟩
    rintro i n' σ2 H2 ⟨r2, m2, l2, S2, ha2, w3⟩
    cases n' with
    | zero => exact w3.elim
    | succ n' =>
      have w3 : Wps X T Av (wd Av r2 l2 σ2 H2) (match m2[n]? with
        | some (.lst xs) => (match xs[i]? with
          | none => .ok (.nx l2) m2
          | some d => liftO (tg.set d l2) fun l' => (evSs T.G cal body l' m2).bind fun o m => again o m fun l m => forML tg n (evSs T.G cal body) n' (i + 1) l m)
        | none => .bad) D := w3
      cases em : m2[n]? with
      | none => rw [em] at w3; exact w3.elim
      | some o =>
        cases o with
        | lst xs =>
        rw [em] at w3
        have w4 : Wps X T Av (wd Av r2 l2 σ2 H2) (match xs[i]? with
          | none => .ok (.nx l2) m2
          | some d => liftO (tg.set d l2) fun l' => (evSs T.G cal body l' m2).bind fun o m => again o m fun l m => forML tg n (evSs T.G cal body) n' (i + 1) l m) D := w3
        obtain ⟨vs, hvs, hr⟩ := S2.mem n xs a em ha2
        cases ei : xs[i]? with
        | none =>
          rw [ei] at w4
          refine .inl ⟨⟨vs, .inl (.inl hvs), ?_⟩, Wps.nx w4 S2 (Ext.refl _)⟩
          rw [← hr.length]
          exact List.getElem?_eq_none_iff.mp ei
        | some d =>
          rw [ei] at w4
          obtain ⟨v, ev, hv⟩ := hr.get ei
          refine .inr ⟨⟨vs, v, .inl (.inl hvs), ev⟩, In (i + 1) n', fun σ' H' h => ⟨n', Nat.lt_succ_self n', h⟩, fun x H3 hy => ?_⟩
          obtain ⟨rfl, hy⟩ := hy
          have e9 := hy vs (.inl (.inl hvs))
          rw [ev] at e9
          cases e9
          obtain ⟨l3, etg, w5⟩ := Wps.liftO w4
          refine ⟨Av, r2, m2, l2, d, l3, S2, hv, etg, fun σ' P => ⟨Av, r2, m2, l3, P.sr, ?_⟩⟩
          refine ((Wps.mono P.ext w5).again).imp (fun σ6 H6 h => ?_) (fun _ _ h => h) (fun σ6 H6 h => ?_) fun _ _ h => h
          · obtain ⟨r6, m6, l6, S6, x6, w6⟩ := h
            exact ⟨r6, m6, l6, S6, x6.pre n a (P.ext.pre n a ha2), w6⟩
          · obtain ⟨r6, m6, l6, S6, x6, w6⟩ := h
            exact ⟨r6, m6, l6, S6, x6.pre n a (P.ext.pre n a ha2), w6⟩
  | _ => exact w1.elim

/-! a, b = x, y -/
def isStar : Expr → Bool
  | .Starred .. => true
  | _ => false
def parName (env : Env) (line : Nat) (e : Expr) : Option Str := match e with
  | .Name id pos => if env.kindOf id == some .local && pos.line == line then some id else none
  | _ => none
def headLine (ts : List Expr) : Nat := (ts.head?.map (·.pos.line)).getD 0
theorem sws_eq (ts vs : List Expr) (k k2 : Nat) (p p2 : Pos) (env : Env) : swappedStores [.Tuple ts k p] (.Tuple vs k2 p2) env =
    (if (!(ts.length == 2 || ts.length == 3) || vs.length != ts.length || env.blockKind != .function) = true then pure none else if vs.any isStar = true then pure none
      else if ((ts.filterMap (parName env (headLine ts))).length != ts.length || (ts.filterMap (parName env (headLine ts))).eraseDups.length != (ts.filterMap (parName env (headLine ts))).length) = true then pure none
      else if vs.all (foldedForSure 8) = true then pure none else (do
        if vs.all (constantsAlone 8) = true then unsupported "assign.tuple-of-constant-expressions:order-of-the-stores"
        return some (ts.filterMap (parName env (headLine ts))))) := rfl
def parNm (sc : Scope) (line : Nat) (e : Expr) : Option Str := match e with
  | .Name id pos => if sc.names.lookup id == some .local && pos.line == line then some id else none
  | _ => none
def parOk (sc : Scope) (ts vs : List Expr) (ns : List Str) : Bool :=
  sc.kind == .function && (ts.length == 2 || ts.length == 3) && vs.length == ts.length && !vs.any isStar && ts.filterMap (parNm sc (headLine ts)) == ns && ns.length == ts.length && ns.eraseDups.length == ns.length
    && !vs.all (foldedForSure 8) && !vs.all (constantsAlone 8)
theorem sws_par {ts vs : List Expr} {env : Env} {ns : List Str} {k k2 : Nat} {p p2 : Pos} (h : parOk env.scope ts vs ns = true) : swappedStores [.Tuple ts k p] (.Tuple vs k2 p2) env = pure (some ns) := by
  unfold parOk at h
  simp only [Bool.and_eq_true, Bool.not_eq_true'] at h
  obtain ⟨⟨⟨⟨⟨⟨⟨⟨h3, h1⟩, h2⟩, h4⟩, h5⟩, h6⟩, h7⟩, h8⟩, h9⟩ := h
  have hb : env.blockKind = .function := by unfold Env.blockKind; rw [eq_of_beq h3]; rfl
  have h5' : ts.filterMap (parName env (headLine ts)) = ns := eq_of_beq h5
  have h2' := eq_of_beq h2
  have h6' := eq_of_beq h6
  have h7' := eq_of_beq h7
  rw [sws_eq, h5', h1, h2', hb, h4, h6', h7', h8, h9, h6']
  have e1 : (ts.length != ts.length) = false := by simp
  rw [e1]
  rfl
/-- a row of targets that is stored from the left -/
def sNone (sc : Scope) (ts vs : List Expr) : Bool := (!(ts.length == 2 || ts.length == 3) || vs.length != ts.length) || (ts.filterMap (parNm sc (headLine ts))).length != ts.length
theorem sws_none {ts vs : List Expr} {env : Env} {k k2 : Nat} {p p2 : Pos} (h : sNone env.scope ts vs = true) : swappedStores [.Tuple ts k p] (.Tuple vs k2 p2) env = pure none := by
  have e : ts.filterMap (parName env (headLine ts)) = ts.filterMap (parNm env.scope (headLine ts)) := rfl
  rw [sws_eq, e]
  unfold sNone at h
  rcases Bool.or_eq_true_iff.mp h with h | h
  · rw [h, Bool.true_or]
    rfl
  · rw [h, Bool.true_or]
    split
    · rfl
    · split
      · rfl
      · rfl
/-- slots stored in a row -/
theorem Reps.same_of {Av : Addr → Prop} {r : List Addr} {l : Lo} {σ : L2.St} {H : Hp} {i : Nat} {d d2 : D} {v v2 : V} (h : Rep T (wd Av r l σ H) d v) : Rep T (wd Av r (l.set i (.val d2)) (σ.set i (some v2)) H) d v :=
  Rep.same (Same2.slots (ownAt_set (s := .val d2) (o := some v2) fun xs e => nomatch e)) d v h
theorem st_par2 {e e2 : E} {a b : Expr} {i j : Nat} {x y : Str} {px py pt pos pt2 : Pos} {kt k2 : Nat} (hc : X.calm = true) (hN : X.N.Nodup) (hi : X.N[i]? = some x) (hj : X.N[j]? = some y) (hij : i ≠ j) 
    (hx : X.env.scope.names.lookup x = some .local) (hy : X.env.scope.names.lookup y = some .local) (hk : parOk X.env.scope [.Name x px, .Name y py] [a, b] [x, y] = true) (h : SEs T cal X [e, e2] [a, b]) :
    PS X (.Assign [.Tuple [.Name x px, .Name y py] kt pt] (.Tuple [a, b] k2 pt2) pos) (tS X T cal (.asg (.tup [.name i, .name j]) (.tup [e, e2]))) := by
  refine PS.imp (ps_par hc hN hi hj hij hx hy (h.pa (.inl rfl)) (sws_par hk) rfl) fun DD σ H q => ?_
  obtain ⟨Av, r, m, l, S, w⟩ := q
  refine ⟨Av, r, m, l, S, ?_⟩
  have w' : Wps X T Av (wd Av r l σ H) (lift l ((evL T.G cal [e, e2] .p l m).bind fun xs m => if xs.length ≤ sizeLine then Res.ok (D.tup xs) m else Res.bad) fun d m => liftO ((Tg.tup [.name i, .name j]).set d l) fun l' => .ok (.nx l') m) DD := w
  refine (Wpe.bind (Wps.lift w')).imp fun ds m1 r1 H1 _ S1 x1 w1 vs hvs => ?_
  split at w1
  · have w2 := w1 r1 H1 S1 (Ext.refl _)
    obtain ⟨l', e1, w3⟩ := Wps.liftO w2
    match ds, e1, hvs with
    | [d1, d2], e1, hvs =>
      obtain ⟨v1, v2, rfl, hv1, hv2⟩ := RepsM.two hvs
      cases (show some ((l.set i (.val d1)).set j (.val d2)) = some l' from e1)
      refine ⟨v1, v2, rfl, Wps.nx w3 ((S1.setVal hv1).setVal ?_) (Ext.setVal.trans Ext.setVal)⟩
      exact Reps.same_of hv2
  · exact (w1 : False).elim
theorem st_par3 {e e2 e3 : E} {a b c : Expr} {i j k : Nat} {x y z : Str} {px py pz pt pos pt2 : Pos} {kt k2 : Nat} (hc : X.calm = true) (hN : X.N.Nodup) (hi : X.N[i]? = some x) (hj : X.N[j]? = some y) (hk : X.N[k]? = some z) (hij : i ≠ j) (hik : i ≠ k) (hjk : j ≠ k) 
    (hx : X.env.scope.names.lookup x = some .local) (hy : X.env.scope.names.lookup y = some .local) (hz : X.env.scope.names.lookup z = some .local) (hok : parOk X.env.scope [.Name x px, .Name y py, .Name z pz] [a, b, c] [x, y, z] = true) (h : SEs T cal X [e, e2, e3] [a, b, c]) :
    PS X (.Assign [.Tuple [.Name x px, .Name y py, .Name z pz] kt pt] (.Tuple [a, b, c] k2 pt2) pos) (tS X T cal (.asg (.tup [.name i, .name j, .name k]) (.tup [e, e2, e3]))) := by
  refine PS.imp (ps_par3 hc hN hi hj hk hij hik hjk hx hy hz (h.pa (.inl rfl)) (sws_par hok) rfl) fun DD σ H q => ?_
  obtain ⟨Av, r, m, l, S, w⟩ := q
  refine ⟨Av, r, m, l, S, ?_⟩
  have w' : Wps X T Av (wd Av r l σ H) (lift l ((evL T.G cal [e, e2, e3] .p l m).bind fun xs m => if xs.length ≤ sizeLine then Res.ok (D.tup xs) m else Res.bad) fun d m => liftO ((Tg.tup [.name i, .name j, .name k]).set d l) fun l' => .ok (.nx l') m) DD := w
  refine (Wpe.bind (Wps.lift w')).imp fun ds m1 r1 H1 _ S1 x1 w1 vs hvs => ?_
  split at w1
  · have w2 := w1 r1 H1 S1 (Ext.refl _)
    obtain ⟨l', e1, w3⟩ := Wps.liftO w2
    match ds, e1, hvs with
    | [d1, d2, d3], e1, hvs =>
      obtain ⟨v1, vr, rfl, hv1, hvs⟩ := hvs
      obtain ⟨v2, v3, rfl, hv2, hv3⟩ := RepsM.two hvs
      cases (show some (((l.set i (.val d1)).set j (.val d2)).set k (.val d3)) = some l' from e1)
      refine ⟨v1, v2, v3, rfl, Wps.nx w3 (((S1.setVal hv1).setVal ?_).setVal ?_) ((Ext.setVal.trans Ext.setVal).trans Ext.setVal)⟩
      · exact Reps.same_of hv2
      · exact Reps.same_of (Reps.same_of hv3)
  · exact (w1 : False).elim
end
end Ev

set_option Elab.async false
set_option linter.all false
set_option maxRecDepth 100000
set_option maxHeartbeats 2000000
/-! Ev15: list.index; syntax seen through. -/
namespace Ev
open PySem PySem.Spec PyProof.Rows L2

section
variable {X : Cx} {T : Tx} {cal : Nat → List D → Sto → Res D}
theorem cmpOk_py {d : D} {p : PyData} (h : d.cmpOk = some p) : D.py d = some p ∧ SeqAt.shaped p = true := by
  unfold D.cmpOk at h
  cases e : D.py d with
  | none => rw [e] at h; cases h
  | some q =>
    rw [e] at h
    obtain ⟨h1, rfl⟩ := ite_some (show (if SeqAt.shaped q then some q else none) = some p from h)
    exact ⟨rfl, h1⟩
theorem findIdx?_spec {α : Type} {f : α → Bool} {xs : List α} {j : Nat} (h : xs.findIdx? f = some j) : ∃ z, xs[j]? = some z ∧ f z = true ∧ ∀ m z', m < j → xs[m]? = some z' → f z' = false := by
  obtain ⟨hlt, h1, h2⟩ := List.findIdx?_eq_some_iff_getElem.mp h
  refine ⟨xs[j], List.getElem?_eq_getElem hlt, h1, fun m z' hm e => ?_⟩
  have hm2 : m < xs.length := Nat.lt_trans hm hlt
  rw [List.getElem?_eq_getElem hm2] at e
  cases e
  have := h2 m hm
  simpa using this
theorem se_mcl (hK : X.K = T.K) {b : BI} {o : E} {as : List E} {ox : Expr} {xs : List Expr} {T' name id} {apos cpos : Pos} {rr : V → List V → Hp → VK → Prop} (pl : PlainAttrs T') (slot : Slot T' name id) (hty : typeOf (.builtin id) = pure (.type "method_descriptor")) (hm : MtR X id rr)
    (ho : SE T cal X o ox) (ha : SEs T cal X as xs) (hbase : attributeBase ox name X.env (eval ox X.env) = eval ox X.env) (hline : (apos.endLine == cpos.line) = true) (hlen : xs.length < 30)
    (ht : ∀ {Av : Addr → Prop} {r : List Addr} {m : Sto} {l : Lo} {σ : L2.St} {H : Hp} {d : D} {v : V}, SR T Av r m l σ H → RepB T (wd Av r l σ H) l σ d v → mTy b d = true → tyV X.K T' v H)
    (hr : ∀ {Av : Addr → Prop} {r : List Addr} {m : Sto} {l : Lo} {σ : L2.St} {H : Hp} {d z : D} {ds : List D} {v : V} {us : List V} {Q : VK}, SR T Av r m l σ H → RepB T (wd Av r l σ H) l σ d v → RepsM T (wd Av r l σ H) l σ .b ds us → mTy b d = true → dBI m b (d :: ds) = some z →
      (∀ w H', SR T Av r m l σ H' → Ext (wd Av r l σ H) (wd Av r l σ H') → Rep T (wd Av r l σ H') z w → Q w H') → rr v us H Q) :
    SE T cal X (.mcl b o as) (.Call (.Attribute ox name apos) xs [] cpos) := by
  have step : ∀ {σ : L2.St} {H : Hp} {Q : VK}, tE X T cal .p (.mcl b o as) σ H Q → tE X T cal .b o σ H fun x H1 => tyV X.K T' x H1 ∧ tL X T cal .b as σ H1 fun vs H2 => rr x vs H2 Q := by
    intro σ H Q q
    obtain ⟨Av, r, m, l, S, w⟩ := q
    refine ⟨Av, r, m, l, S, ?_⟩
    have w' : Wpe X T Av (wd Av r l σ H) l σ ((evM T.G cal o .b l m).bind fun x m => if mTy b x then (evL T.G cal as .b l m).bind fun xs m => ofO (dBI m b (x :: xs)) m else Res.bad) _ := w
    refine (Wpe.bind w').imp fun d m1 r1 H1 _ S1 x1 w1 v hv => ?_
    by_cases c : mTy b d = true
    case neg =>
      rw [if_neg c] at w1
      exact w1.elim
    rw [if_pos c] at w1
    refine ⟨ht S1 hv c, Av, r1, m1, l, S1, ?_⟩
    refine (Wpe.bind w1).imp fun ds m2 r2 H2 _ S2 x2 w2 us hus => ?_
    obtain ⟨z, e1, w3⟩ := Wpe.optE w2
    exact hr S2 (RepB.ext x2 hv) hus c e1 fun w' H' S' x' hw => w3 r2 H' S' x' w' hw
  cases ha with
  | nil =>
    refine .of hK (PE.imp (pe_bm0 pl slot hty hm ho.b hbase hline) fun σ H Q q => ?_) (fun _ _ => rfl) (fun _ => rfl) (fun _ _ => rfl) lt_other
    obtain ⟨Av, r, m, l, S, w⟩ := step q
    refine ⟨Av, r, m, l, S, w.imp fun d m1 r1 H1 _ S1 x1 w1 v hv => ?_⟩
    obtain ⟨h1, h2⟩ := w1 v hv
    exact ⟨h1, tL_nil h2⟩
  | cons h1 t =>
    rename_i e1 x1 es1 xs1
    refine .of hK (PE.imp (pe_bm pl slot hty hm ho.b ((SEs.cons h1 t).pa (.inr rfl)) hbase ?_ hline (h1.lt.star _ _) (by rw [backTo_any]; exact t.star _)) fun σ H Q q => step q) (fun _ _ => rfl) (fun _ => rfl) (fun _ _ => rfl) lt_other
    rw [Bool.and_eq_true, Bool.and_eq_true]
    refine ⟨⟨?_, rfl⟩, ?_⟩
    · have h2 : (backTo cpos (starEach (x1 :: xs1) X.env)).any (·.1) = false := by
        rw [backTo_any]
        exact (SEs.cons h1 t).star X.env
      rw [List.all_eq_true]
      intro z hz
      rw [List.any_eq_false] at h2
      have := h2 z hz
      simpa using this
    · exact decide_eq_true (by simpa using hlen)
theorem lst_ty {Av : Addr → Prop} {r : List Addr} {m : Sto} {l : Lo} {σ : L2.St} {H : Hp} {ys : List D} {v : V} (S : SR T Av r m l σ H) (h : RepB T (wd Av r l σ H) l σ (.lst ys) v) : tyV X.K "list" v H := by
  obtain ⟨a, vs, rfl, s, _⟩ := h.lst S
  exact .inl ⟨rfl, vs, .inl s⟩
theorem MtR.or {id : String} {r r' : V → List V → Hp → VK → Prop} (h : MtR X id r) (h' : MtR X id r') : MtR X id (fun x xs H Q => r x xs H Q ∨ r' x xs H Q) :=
  fun pins s σ H x xs v us Q I rx rxs q => q.elim (fun q => h pins s σ H x xs v us Q I rx rxs q) fun q => h' pins s σ H x xs v us Q I rx rxs q
theorem Reps.pyAll_get {W : Wd} : ∀ {ds : List D} {ps : List PyData}, D.pyAll ds = some ps → ds.length = ps.length
  | [], ps, e => by
    cases (show some [] = some ps from e)
    rfl
  | d :: ds, ps, e => by
    obtain ⟨q, e1, e2⟩ := Option.bind_eq_some_iff.mp (show ((D.py d).bind fun x => (D.pyAll ds).map (x :: ·)) = some ps from e)
    obtain ⟨qs, e3, rfl⟩ := Option.map_eq_some_iff.mp e2
    rw [List.length_cons, List.length_cons, Reps.pyAll_get (W := W) e3]
theorem scal_rep {W : Wd} {l : Lo} {σ : L2.St} {d : D} {v : V} (s : d.isScal = true) (h : RepB T W l σ d v) : Rep T W d v := h.rep_of fun xs e => by subst e; cases s
theorem all_scal_get {ys : List D} (h : ys.all D.isScal = true) {j : Nat} {z : D} (e : ys[j]? = some z) : z.isScal = true := List.all_eq_true.mp h z (List.mem_of_getElem? e)
theorem se_index (hK : X.K = T.K) (hu : X.A.units + 65 < cLine) {o : E} {as : List E} {ox : Expr} {xs : List Expr} {apos cpos : Pos} (ho : SE T cal X o ox) (ha : SEs T cal X as xs) (hbase : attributeBase ox "index" X.env (eval ox X.env) = eval ox X.env) (hline : (apos.endLine == cpos.line) = true) (hlen : xs.length < 30) :
    SE T cal X (.mcl .index o as) (.Call (.Attribute ox "index" apos) xs [] cpos) := by
  refine se_mcl hK PySem.F.plainAttrs_list PySem.F.slot_list_index PySem.F.type_list_index (MtR.or mt_index (mt_indexD hu)) ho ha hbase hline hlen (fun {Av r m l σ H d v} S h c => ?_) fun {Av r m l σ H d z ds v us Q} S h hs c e q => ?_
  · cases d with
    | lst ys => exact lst_ty S h
    | _ => cases c
  · cases d with
    | lst ys =>
      match ds, e, hs with
      | [x], e, hs =>
        obtain ⟨u, rfl, hu'⟩ := RepsM.one hs
        have hu' : RepB T (wd Av r l σ H) l σ x u := hu'
        obtain ⟨a, vs, rfl, s, hr⟩ := h.lst S
        have e : dIndex x ys = some z := e
        unfold dIndex at e
        by_cases cs : (x.isScal && ys.all D.isScal) = true
        · rw [if_pos cs] at e
          obtain ⟨c1, c2⟩ := Bool.and_eq_true_iff.mp cs
          obtain ⟨j, e1, rfl⟩ := Option.map_eq_some_iff.mp e
          obtain ⟨y, ey, f1, f2⟩ := findIdx?_spec e1
          have hx := scal_rep c1 hu'
          obtain ⟨w, ew, hw⟩ := hr.get ey
          refine .inl ⟨a, vs, u, j, w, rfl, rfl, .inl s, scalV hx c1, flat_all hr c2, ew, ?_, fun k z' hk ez => ?_, q _ H S (Ext.refl _) rfl⟩
          · rw [eqS_V hw (all_scal_get c2 ey) hx c1]
            exact f1
          · obtain ⟨d', ed, hd⟩ := hr.getV ez
            rw [eqS_V hd (all_scal_get c2 ed) hx c1]
            exact f2 k d' hk ed
        · rw [if_neg cs] at e
          obtain ⟨p, e1, e⟩ := Option.bind_eq_some_iff.mp e
          obtain ⟨qs, e2, e⟩ := Option.bind_eq_some_iff.mp e
          by_cases c3 : SeqAt.shaped (PyData.list qs) = true
          case neg =>
            rw [if_neg c3] at e
            cases e
          rw [if_pos c3] at e
          obtain ⟨j, e3, rfl⟩ := Option.map_eq_some_iff.mp e
          obtain ⟨h1, h2⟩ := cmpOk_py e1
          obtain ⟨y, ey, f1, f2⟩ := findIdx?_spec e3
          refine .inr ⟨a, u, p, qs, j, y, rfl, rfl, ?_, ?_, c3, h2, ey, f1, f2, q _ H S (Ext.refl _) rfl⟩
          · rw [hK]
            exact RepB.dp S h (show (D.pyAll ys).map PyData.list = _ by rw [e2]; rfl)
          · rw [hK]
            exact RepB.dp S hu' h1
    | _ => cases c
end
end Ev

set_option Elab.async false
set_option linter.all false
set_option maxRecDepth 100000
set_option maxHeartbeats 2000000
/-! Ev16: records made. -/
namespace Ev
open PySem PySem.Spec PyProof.Rows L2

theorem upd_self {H : Hp} {a : Addr} {o : HO} (h : H a = some o) : upd H a o = H := by
  funext b
  by_cases e : b = a
  · subst e; rw [upd_same, h]
  · rw [upd_ne e]
theorem putF_end {f : Str} {v : V} : ∀ {fs : List (Str × V)}, f ∉ fs.map (·.1) → putF f v fs = fs ++ [(f, v)]
  | [], _ => rfl
  | (g, x) :: r, h => by
    rw [List.map_cons, List.mem_cons, not_or] at h
    show (if g = f then (g, v) :: r else (g, x) :: putF f v r) = _
    rw [if_neg fun e => h.1 e.symm, putF_end h.2]
    rfl
/-- the stores of an __init__ -/
def unInit : Stmt → Option (Str × Str × Str)
  | .Assign [.Attribute (.Name s _) f _] (.Name x _) _ => some (s, f, x)
  | _ => none
theorem unInit_some {st : Stmt} {s f x : Str} (h : unInit st = some (s, f, x)) : ∃ p1 p2 p3 p4, st = .Assign [.Attribute (.Name s p1) f p2] (.Name x p3) p4 := by
  unfold unInit at h
  split at h
  · cases h
    exact ⟨_, _, _, _, rfl⟩
  · cases h
def selfN : Str := "self"
def chkInit : List Stmt → List Str → Bool
  | [], [] => true
  | st :: sts, n :: ns => decide (unInit st = some (selfN, n, n)) && chkInit sts ns
  | _, _ => false
/-- an __init__'s promise -/
def spI (ns : List Str) (C : Addr) : Sp := fun vs H Q _ => ∃ (x dx : Addr) (us : List V), vs = .ref x :: us ∧ us.length = ns.length ∧ H x = some (.ins C dx []) ∧ Q .non (upd H x (.ins C dx (ns.zip us)))
theorem init_body {X : Cx} {C : Addr} {ns : List Str} (hN : X.N = selfN :: ns) (hv : ∀ x ∈ X.N, Vis X.env.scope x) (hd : ∀ x ∈ X.N, (x == ("__debug__" : Str)) = false ∧ (x == ("__classdict__" : Str)) = false) (c : Cls X.K C) (na : ∀ f ∈ ns, NoAttr X.K C f) (nd : ns.Nodup) (hl : ns.length < 1000) :
    ∀ (sts : List Stmt) (dn rest : List Str), ns = dn ++ rest → chkInit sts rest = true → PSs X sts (fun D σ H => ∃ (x dx : Addr) (us : List V), σ[0]? = some (some (.ref x)) ∧ us.length = ns.length ∧ (∀ (i : Nat) v, us[i]? = some v → σ[i + 1]? = some (some v)) ∧
      H x = some (.ins C dx (dn.zip us)) ∧ D.nx σ (upd H x (.ins C dx (ns.zip us))))
  | [], dn, rest, e, h => by
    cases rest with
    | cons _ _ => cases h
    | nil =>
      rw [List.append_nil] at e
      subst e
      refine PSs.imp pss_nil fun D σ H q => ?_
      obtain ⟨x, dx, us, _, _, _, h1, q⟩ := q
      rw [upd_self h1] at q
      exact q
  | st :: sts, dn, rest, e, h => by
    cases rest with
    | nil => cases h
    | cons x ns' =>
    obtain ⟨h1, h2⟩ := Bool.and_eq_true_iff.mp (show (decide (unInit st = some (selfN, x, x)) && chkInit sts ns') = true from h)
    obtain ⟨p1, p2, p3, p4, rfl⟩ := unInit_some (of_decide_eq_true h1)
    have hi0 : X.N[0]? = some selfN := by rw [hN]; rfl
    have hlen : dn.length < ns.length := by rw [e, List.length_append, List.length_cons]; omega
    have hget : ns[dn.length]? = some x := by rw [e, List.getElem?_append_right (Nat.le_refl _), Nat.sub_self]; rfl
    have hi1 : X.N[dn.length + 1]? = some x := by rw [hN]; simpa using hget
    have m0 : selfN ∈ X.N := List.mem_of_getElem? hi0
    have m1 : x ∈ X.N := List.mem_of_getElem? hi1
    have hx : x ∈ ns := List.mem_of_getElem? hget
    have nin : x ∉ dn := fun z => by
      rw [e, List.nodup_append] at nd
      exact nd.2.2 x z x (List.mem_cons_self ..) rfl
    have ih := init_body hN hv hd c na nd hl sts (dn ++ [x]) ns' (by rw [e, List.append_assoc]; rfl) h2
    refine PSs.imp (pss_cons (ps_fld (pe_var hi0 (hv _ m0) (hd _ m0).1 (hd _ m0).2) (pe_var hi1 (hv _ m1) (hd _ m1).1 (hd _ m1).2) rfl) ih) fun D σ H q => ?_
    obtain ⟨a, dx, us, g0, g1, g2, g3, q⟩ := q
    have hlu : dn.length < us.length := by rw [g1]; exact hlen
    have g4 := g2 dn.length _ (List.getElem?_eq_getElem hlu)
    have ezip : putF x us[dn.length] (dn.zip us) = (dn ++ [x]).zip us := by
      rw [putF_end]
      · conv => rhs; rw [← List.take_append_drop dn.length us, List.drop_eq_getElem_cons hlu]
        rw [List.zip_append (by rw [List.length_take]; omega)]
        congr 1
        conv => lhs; rw [← List.take_append_drop dn.length us]
        have := List.zip_append (l₁ := dn) (r₁ := ([] : List Str)) (l₂ := us.take dn.length) (r₂ := us.drop dn.length) (by rw [List.length_take]; omega)
        rw [List.append_nil] at this
        rw [this]
        simp
      · intro z
        obtain ⟨p, hp, e2⟩ := List.mem_map.mp z
        have := (List.of_mem_zip (show (p.1, p.2) ∈ dn.zip us from hp)).1
        rw [e2] at this
        exact nin this
    refine ⟨us[dn.length], g4, .ref a, g0, a, C, dx, dn.zip us, rfl, g3, c, na _ hx, ?_, a, dx, us, g0, g1, g2, ?_, ?_⟩
    · rw [List.length_zip]
      omega
    · rw [upd_same, ezip]
    · rw [upd_upd]
      exact q
section
variable {P : Program} {w : World} {K : PySem.W.Frag} {mg : Str → Option Value} {base : Heap} {x qual : Str} {params : Arguments} {body : List Stmt} {scope : Scope} {dvs : List V} {kws : List (Str × V)} {f : Addr} {fd : FuncData}
theorem init_fn {CX : CXT} {C : Addr} {ns : List Str} {k : Nat} (F : FunD K x qual params body scope dvs kws f fd) (S : FnScope (selfN :: ns) (selfN :: ns) scope) (hd : ∀ x ∈ selfN :: ns, (x == ("__debug__" : Str)) = false ∧ (x == ("__classdict__" : Str)) = false) (c : Cls K C) (na : ∀ f ∈ ns, NoAttr K C f) (nd : ns.Nodup) (hl : ns.length < 1000)
    (hb : chkInit body ns = true) : FnOk P w K mg base CX (k + 1) f fd (selfN :: ns) (spI ns C) := by
  refine F.ok S (fun vs H Q E h => ?_) fun cdv A outer s H vs Q E hr h => ?_
  · obtain ⟨x, dx, us, rfl, h1, _⟩ := h
    rw [List.length_cons, List.length_cons, h1]
  · obtain ⟨y, dx, us, rfl, h1, h2, q⟩ := h
    refine ⟨_, init_body (X := cxOf CX P w K mg base (selfN :: ns) qual scope f cdv A outer s H E) (C := C) rfl (fun z hz => ?_) hd c na nd hl body [] ns rfl hb, y, dx, us, rfl, h1, fun i v e => ?_, h2, q⟩
    · exact (S.par z hz).elim .inl fun z => .inr (.inl z)
    · show ((V.ref y :: us).map some ++ _)[i + 1]? = _
      have hlt := (List.getElem?_eq_some_iff.mp e).1
      rw [List.getElem?_append_left (by simpa using hlt), List.map_cons, List.getElem?_cons_succ, List.getElem?_map, e]
      rfl
end

/-! keywords -/
section
variable {X : Cx} {T : Tx} {cal : Nat → List D → Sto → Res D}
theorem SEs.pk {es : List E} : ∀ {kws : List Keyword} {es : List E}, SEs T cal X es (kws.map (·.value)) → PK X kws (tL X T cal .p es)
  | [], _, h => by
    cases h
    exact ⟨fun pos pins s σ H Q I q => pk_nil.run pos pins s σ H Q I (tL_nil q)⟩
  | ⟨nm, e, kp⟩ :: kws, _, h => by
    cases h with
    | cons h t => exact ⟨fun pos pins s σ H Q I q => (pk_cons h.p (SEs.pk (es := []) t)).run pos pins s σ H Q I (tL_cons q)⟩
theorem kw_each (pos : Pos) (env : Env) : ∀ (kws : List Keyword), (backToKw pos (keywordEach kws env)).map (·.1) = kws.map (·.arg)
  | [] => rfl
  | ⟨nm, e, kp⟩ :: kws => by
    show nm :: (backToKw pos (keywordEach kws env)).map (·.1) = _
    rw [kw_each pos env kws]
    rfl
def kwNames (kws : List Keyword) (ks : List Str) : Bool := decide (kws.map (·.arg) = ks.map some)
theorem kw_all {pos : Pos} {env : Env} {kws : List Keyword} {ks : List Str} (h : kwNames kws ks = true) : (backToKw pos (keywordEach kws env)).all (·.1.isSome) = true ∧ (backToKw pos (keywordEach kws env)).filterMap (·.1) = ks ∧ (backToKw pos (keywordEach kws env)).any (·.1.isNone) = false := by
  have e := (kw_each pos env kws).trans (of_decide_eq_true h)
  generalize backToKw pos (keywordEach kws env) = ts at e
  clear h
  induction ts generalizing ks with
  | nil =>
    cases ks with
    | nil => exact ⟨rfl, rfl, rfl⟩
    | cons _ _ => cases e
  | cons t ts ih =>
    cases ks with
    | nil => cases e
    | cons k ks =>
      rw [List.map_cons, List.map_cons] at e
      obtain ⟨e1, e2⟩ := List.cons.inj e
      obtain ⟨h1, h2, h3⟩ := ih e2
      refine ⟨?_, ?_, ?_⟩
      · rw [List.all_cons, e1, h1]
        rfl
      · rw [List.filterMap_cons, e1, h2]
      · rw [List.any_cons, e1, h3]
        rfl
/-- a record's class -/
structure MkAt (B : Bs) (x : Str) (c n : Nat) (ks : List Str) (kp : List Nat) : Prop where
  ex : ∃ (f : Addr) (fd : FuncData) (ps ns : List Str) (df : List (Option D)) (g : List Value → List Value → List Value) (gV : List V → List V → List V), Mk B.T.K (B.T.ca c) f ∧ B.mg x = some (.ref (B.T.ca c)) ∧ B.T.G.cls[c]? = some ns ∧ B.T.G.cdf[c]? = some df ∧ df.length = ns.length ∧
    FnOk B.P B.w B.T.K B.mg B.base CXn 1 f fd ps (spI ns (B.T.ca c)) ∧ KBn B.T.K fd ps (n + 1) ks g gV ∧
    ∀ (W : Wd) (v : V) (xs ys ds : List D) (vs zs : List V), xs.length = n → ys.length = ks.length → Reps B.T W xs vs → Reps B.T W ys zs → argVec df xs kp ys = some ds → ∃ us, gV (v :: vs) zs = v :: us ∧ Reps B.T W ds us
theorem mapM_len {α β : Type} {f : α → Option β} : ∀ {xs : List α} {ys : List β}, xs.mapM f = some ys → ys.length = xs.length
  | [], ys, h => by
    cases (show some [] = some ys from h)
    rfl
  | x :: xs, ys, h => by
    rw [List.mapM_cons] at h
    cases e : f x with
    | none => rw [e] at h; cases h
    | some y =>
      rw [e] at h
      cases e2 : xs.mapM f with
      | none => rw [e2] at h; cases h
      | some zs =>
        rw [e2] at h
        cases (show some (y :: zs) = some ys from h)
        rw [List.length_cons, List.length_cons, mapM_len e2]
theorem argVec_len {α : Type} {dfl : List (Option α)} {pos : List α} {kp : List Nat} {kw ds : List α} (h : argVec dfl pos kp kw = some ds) : ds.length = dfl.length := by
  unfold argVec at h
  split at h
  · have := mapM_len h
    simpa using this
  · cases h
theorem evL_len {G : Gs} {md : Md} {l : Lo} : ∀ {es : List E} {m m1 : Sto} {ds : List D}, evL G cal es md l m = .ok ds m1 → ds.length = es.length
  | [], m, m1, ds, e => by
    cases (show Res.ok [] m = Res.ok ds m1 from e)
    rfl
  | e :: es, m, m1, ds, h => by
    obtain ⟨d, m2, e1, e2⟩ := Res.bind_ok (show ((evM G cal e md l m).bind fun x m => (evL G cal es md l m).bind fun xs m => Res.ok (x :: xs) m) = Res.ok ds m1 from h)
    obtain ⟨ds2, m3, e3, e4⟩ := Res.bind_ok e2
    cases e4
    rw [List.length_cons, List.length_cons, evL_len e3]
theorem se_mk {B : Bs} (hB : InB B X) (hT : B.T = T) (hK : X.K = T.K) {x : Str} {c n : Nat} {ks : List Str} {kp : List Nat} {args kw : List E} {xs : List Expr} {kws : List Keyword} {p pos : Pos} (hm : MkAt B x c n ks kp) (hr : Room 2 X.A) (hg : Gl X x) (hdb : (x == ("__debug__" : Str)) = false)
    (hn : args.length = n) (hne : args ≠ []) (ha : SEs T cal X args xs) (hk : SEs T cal X kw (kws.map (·.value))) (hks : kwNames kws ks = true) : SE T cal X (.mk c args kp kw) (.Call (.Name x p) xs kws pos) := by
  subst hT
  obtain ⟨f, fd, ps, ns, df, g, gV, M, e1, e2, e3, e4, F, hb, hg2⟩ := hm.ex
  rw [← hB.prog, ← hB.w, ← hB.K, ← hB.mg, ← hB.base] at F
  rw [← hB.mg] at e1
  rw [← hB.K] at M hb
  obtain ⟨k1, k2, k3⟩ := kw_all (pos := pos) (env := X.env) hks
  cases ha with
  | nil => exact absurd rfl hne
  | cons h1 t =>
    rename_i a1 x1 as1 xs1
    have hst : ((backTo pos (starEach (x1 :: xs1) X.env)).any (·.1) || (backToKw pos (keywordEach kws X.env)).any (·.1.isNone)) = false := by
      rw [backTo_any, (SEs.cons h1 t).star, k3]
      rfl
    refine .of hK (PE.imp (pe_makeK M F hr hg e1 hb passn ((SEs.cons h1 t).pa (.inl rfl)) (SEs.pk (es := []) hk) k1 k2 hdb (h1.lt.star _ _) hst) fun σ H Q q => ?_) (fun _ _ => rfl) (fun _ => rfl) (fun _ _ => rfl) lt_other
    obtain ⟨Av, r, m, l, S, w⟩ := q
    refine ⟨Av, r, m, l, S, ?_⟩
    have w' : Wpe X B.T Av (wd Av r l σ H) l σ ((evL B.T.G cal (a1 :: as1) .p l m).bind fun xs m => (evL B.T.G cal kw .p l m).bind fun ys m => match (B.T.G.cdf[c]?).bind fun df => argVec df xs kp ys with
      | some vs => Res.ok (D.obj c vs) m
      | none => Res.bad) _ := w
    refine (Wpe.bind w').imp fun ds m1 r1 H1 q1 S1 x1 w1 vs hvs => ?_
    refine ⟨Av, r1, m1, l, S1, ?_⟩
    refine (Wpe.bind w1).imp fun es m2 r2 H2 q2 S2 x2 w2 zs hzs => ?_
    have hv2 := Reps.ext x2 _ _ (RepsM.reps hvs)
    have hz2 := RepsM.reps hzs
    have l1 := evL_len q1
    have l2 := evL_len q2
    have w3 : Wpe X B.T Av (wd Av r2 l σ H2) l σ (match (B.T.G.cdf[c]?).bind fun df => argVec df ds kp es with
      | some vs => Res.ok (D.obj c vs) m2
      | none => Res.bad) _ := w2
    cases e5 : (B.T.G.cdf[c]?).bind fun df => argVec df ds kp es with
    | none =>
      rw [e5] at w3
      exact w3.elim
    | some fs =>
    rw [e5] at w3
    rw [e3] at e5
    have e5 : argVec df ds kp es = some fs := e5
    have hk2 : ks.length = kw.length := by
      have a := congrArg List.length (of_decide_eq_true hks)
      have b := hk.length
      simp only [List.length_map] at a b
      omega
    refine ⟨by rw [← hv2.length, l1, hn], by rw [← hz2.length, l2, hk2], fun y dx hy hdx hne2 => ?_⟩
    obtain ⟨us, e6, hus⟩ := hg2 (wd Av r2 l σ H2) (.ref y) ds es fs vs zs (by rw [l1, hn]) (by rw [l2, hk2]) hv2 hz2 e5
    have hfl : fs.length = ns.length := (argVec_len e5).trans e4
    have S3 := S2.new (o := .own y) hdx
    have X3 := Ext.new S2 (o := .own y) hdx
    have hy3 : upd H2 dx (.own y) y = none := by rw [upd_ne (Ne.symm hne2)]; exact hy
    have S4 := S3.new (o := .ins (B.T.ca c) dx (ns.zip us)) hy3
    have X4 := Ext.new S3 (o := .ins (B.T.ca c) dx (ns.zip us)) hy3
    refine ⟨y, dx, us, e6, by rw [← hus.length, hfl], upd_same, rfl, ?_⟩
    rw [upd_upd]
    refine Wpe.okE w3 S4 (X3.trans X4) (.ref y) ⟨y, dx, us, ns, rfl, e2, upd_same, fun z => S3.freshM hy3 z, fun z => S3.freshA hy3 z, by rw [← hus.length, hfl], ?_⟩
    exact Reps.ext (X3.trans X4) fs us hus
end
end Ev

set_option Elab.async false
set_option linter.all false
set_option maxRecDepth 100000
set_option maxHeartbeats 2000000
/-! Ev17: own syntax and the program's compared: expressions. -/
namespace Ev
open PySem PySem.Spec PyProof.Rows L2

/-! syntax seen through -/
def unName : Expr → Option Str
  | .Name x _ => some x
  | _ => none
theorem unName_ok {x : Expr} {n : Str} (h : unName x = some n) : ∃ p, x = .Name n p := by
  unfold unName at h
  split at h
  · cases h; exact ⟨_, rfl⟩
  · cases h
def unConst : Expr → Option Const
  | .Constant c _ _ => some c
  | _ => none
theorem unConst_ok {x : Expr} {n : Const} (h : unConst x = some n) : ∃ k p, x = .Constant n k p := by
  unfold unConst at h
  split at h
  · cases h; exact ⟨_, _, rfl⟩
  · cases h
def unTup : Expr → Option (List Expr)
  | .Tuple xs _ _ => some xs
  | _ => none
theorem unTup_ok {x : Expr} {n : List Expr} (h : unTup x = some n) : ∃ k p, x = .Tuple n k p := by
  unfold unTup at h
  split at h
  · cases h; exact ⟨_, _, rfl⟩
  · cases h
def unLst : Expr → Option (List Expr)
  | .List xs _ => some xs
  | _ => none
theorem unLst_ok {x : Expr} {n : List Expr} (h : unLst x = some n) : ∃ p, x = .List n p := by
  unfold unLst at h
  split at h
  · cases h; exact ⟨_, rfl⟩
  · cases h
def unBin : Expr → Option (Operator × Expr × Expr)
  | .BinOp a op b _ => some (op, a, b)
  | _ => none
theorem unBin_ok {x a b : Expr} {op : Operator} (h : unBin x = some (op, a, b)) : ∃ p, x = .BinOp a op b p := by
  unfold unBin at h
  split at h
  · cases h; exact ⟨_, rfl⟩
  · cases h
def unUn : Expr → Option (UnaryOp × Expr)
  | .UnaryOp op a _ => some (op, a)
  | _ => none
theorem unUn_ok {x a : Expr} {op : UnaryOp} (h : unUn x = some (op, a)) : ∃ p, x = .UnaryOp op a p := by
  unfold unUn at h
  split at h
  · cases h; exact ⟨_, rfl⟩
  · cases h
def unCmp : Expr → Option (Expr × List CmpOp × List Expr)
  | .Compare a ops bs _ => some (a, ops, bs)
  | _ => none
theorem unCmp_ok {x a : Expr} {ops : List CmpOp} {bs : List Expr} (h : unCmp x = some (a, ops, bs)) : ∃ p, x = .Compare a ops bs p := by
  unfold unCmp at h
  split at h
  · cases h; exact ⟨_, rfl⟩
  · cases h
def unBool : Expr → Option (BoolOp × List Expr)
  | .BoolOp op xs _ => some (op, xs)
  | _ => none
theorem unBool_ok {x : Expr} {op : BoolOp} {xs : List Expr} (h : unBool x = some (op, xs)) : ∃ p, x = .BoolOp op xs p := by
  unfold unBool at h
  split at h
  · cases h; exact ⟨_, rfl⟩
  · cases h
def unIte : Expr → Option (Expr × Expr × Expr)
  | .IfExp a b c _ => some (a, b, c)
  | _ => none
theorem unIte_ok {x a b c : Expr} (h : unIte x = some (a, b, c)) : ∃ p, x = .IfExp a b c p := by
  unfold unIte at h
  split at h
  · cases h; exact ⟨_, rfl⟩
  · cases h
def unSub : Expr → Option (Expr × Expr)
  | .Subscript a b _ => some (a, b)
  | _ => none
theorem unSub_ok {x a b : Expr} (h : unSub x = some (a, b)) : ∃ p, x = .Subscript a b p := by
  unfold unSub at h
  split at h
  · cases h; exact ⟨_, rfl⟩
  · cases h
def unSlice : Expr → Option (Option Expr × Option Expr)
  | .Slice a b none _ => some (a, b)
  | _ => none
theorem unSlice_ok {x : Expr} {a b : Option Expr} (h : unSlice x = some (a, b)) : ∃ p, x = .Slice a b none p := by
  unfold unSlice at h
  split at h
  · cases h; exact ⟨_, rfl⟩
  · cases h
def unAttr : Expr → Option (Expr × Str)
  | .Attribute a f _ => some (a, f)
  | _ => none
theorem unAttr_ok {x a : Expr} {f : Str} (h : unAttr x = some (a, f)) : ∃ p, x = .Attribute a f p := by
  unfold unAttr at h
  split at h
  · cases h; exact ⟨_, rfl⟩
  · cases h
/-- f(..) -/
def unCall : Expr → Option (Str × List Expr)
  | .Call (.Name x _) xs [] _ => some (x, xs)
  | _ => none
theorem unCall_ok {x : Expr} {f : Str} {xs : List Expr} (h : unCall x = some (f, xs)) : ∃ p p2, x = .Call (.Name f p) xs [] p2 := by
  unfold unCall at h
  split at h
  · cases h; exact ⟨_, _, rfl⟩
  · cases h
/-- f(.., k = v, ..) -/
def unCallK : Expr → Option (Str × List Expr × List Keyword)
  | .Call (.Name x _) xs ks _ => some (x, xs, ks)
  | _ => none
theorem unCallK_ok {x : Expr} {f : Str} {xs : List Expr} {ks : List Keyword} (h : unCallK x = some (f, xs, ks)) : ∃ p p2, x = .Call (.Name f p) xs ks p2 := by
  unfold unCallK at h
  split at h
  · cases h; exact ⟨_, _, rfl⟩
  · cases h
/-- o.m(..), on one line -/
def unMeth : Expr → Option (Expr × Str × List Expr)
  | .Call (.Attribute o m ap) xs [] p => if ap.endLine == p.line then some (o, m, xs) else none
  | _ => none
theorem unMeth_ok {x o : Expr} {m : Str} {xs : List Expr} (h : unMeth x = some (o, m, xs)) : ∃ p p2, x = .Call (.Attribute o m p) xs [] p2 ∧ (p.endLine == p2.line) = true := by
  unfold unMeth at h
  split at h
  · rename_i o' m' ap xs' p
    by_cases c : (ap.endLine == p.line) = true
    · rw [if_pos c] at h
      cases h
      exact ⟨_, _, rfl, c⟩
    · rw [if_neg c] at h
      cases h
  · cases h
def unLc : Expr → Option (Expr × Expr × Expr × List Expr × Scope)
  | .ListComp ex [⟨tx, ix, cs, 0⟩] scope _ => some (ex, tx, ix, cs, scope)
  | _ => none
theorem unLc_ok {x ex tx ix : Expr} {cs : List Expr} {scope : Scope} (h : unLc x = some (ex, tx, ix, cs, scope)) : ∃ p, x = .ListComp ex [⟨tx, ix, cs, 0⟩] scope p := by
  unfold unLc at h
  split at h
  · cases h; exact ⟨_, rfl⟩
  · cases h
/-- an expression that we never come to -/
def plainX : Expr → Bool
  | .Call .. => true
  | .BinOp .. => true
  | .Compare .. => true
  | .JoinedStr .. => true
  | .ListComp .. => true
  | .Dict .. => true
  | _ => false
theorem plainX_lt {x : Expr} (h : plainX x = true) : Lt x := by
  cases x <;> first | exact lt_other | cases h
/-- an object whose attribute is asked -/
def attrX : Expr → Bool
  | .Call .. => false
  | _ => true
theorem attrX_ok {x : Expr} (h : attrX x = true) (f : Str) (env : Env) : attributeBase x f env (eval x env) = eval x env := by
  cases x <;> first | rfl | cases h

/-! what the comparison is given -/
structure Tb where
  cs : List (Str × Nat)
  fn : List (Str × Nat)
  ar : List Nat
  rc : List (Str × Nat × Nat × List Str × List Nat)
structure Cc where
  sc : Scope
  N : List Str
  blk : Option Scope
def isNames : List Str := ["isinstance", "range", "enumerate", "zip", "reversed", "len", "int", "abs", "max", "min", "tuple", "list", "any", "all", "repr", "str", "bool", "sum"]
def biName : BI → Option Str
  | .len => some "len"
  | .int => some "int"
  | .abs => some "abs"
  | .max2 => some "max"
  | .min2 => some "min"
  | .tuple => some "tuple"
  | .list => some "list"
  | .any => some "any"
  | .all => some "all"
  | .bool => some "bool"
  | .sum => some "sum"
  | .range => some "range"
  | _ => none
structure TbOk (B : Bs) (cal : Nat → List D → Sto → Res D) (k : Nat) (tb : Tb) : Prop where
  cs : ∀ x j, tb.cs.lookup x = some j → ∃ u v d, B.mg x = some u ∧ RelV v u ∧ B.T.G.cs[j]? = some d ∧ ∀ W, Rep B.T W d v
  fn : ∀ x f, tb.fn.lookup x = some f → ∃ n df, FnAt B cal k x f n ∧ B.T.G.dfl[f]? = some df ∧ tb.ar[f]? = some df.length
  rc : ∀ x c n ks kp, (x, c, n, ks, kp) ∈ tb.rc → MkAt B x c n ks kp
  bi : ∀ x ∈ isNames, B.mg x = none
  fld : ∀ c ns f, B.T.G.cls[c]? = some ns → f ∈ ns → Cls B.T.K (B.T.ca c) ∧ NoAttr B.T.K (B.T.ca c) f
structure CcOk (B : Bs) (k : Nat) (c : Cc) (X : Cx) : Prop where
  inB : InB B X
  sc : X.env.scope = c.sc
  N : X.N = c.N
  nd : X.N.Nodup
  calm : X.calm = true
  fn : match c.blk with
    | none => ∀ x, X.fn x = true
    | some s => ∀ x, s.names.lookup x = some .cell → X.fn x = true
  room : Room k X.A
  two : 2 ≤ k
theorem CcOk.units {B : Bs} {k : Nat} {c : Cc} {X : Cx} (h : CcOk B k c X) : X.A.units + 65 < cLine := by have := h.room.un; omega
def visB (c : Cc) (x : Str) : Bool := match c.sc.names.lookup x with
  | some .local => true
  | some .cell => true
  | some .free => true
  | _ => false
def glB (c : Cc) (x : Str) : Bool := match c.sc.names.lookup x with
  | some .globalImplicit => true
  | _ => false
def locB (c : Cc) (x : Str) : Bool := match c.sc.names.lookup x with
  | some .local => true
  | some .cell => (match c.blk with
    | none => true
    | some s => decide (s.names.lookup x = some .cell))
  | _ => false
def dbg : Str := "__debug__"
def cdc : Str := "__classdict__"
def nm1 (x : Str) : Bool := !(x == dbg)
def nm2 (x : Str) : Bool := !(x == dbg) && !(x == cdc)
section
variable {B : Bs} {cal : Nat → List D → Sto → Res D} {k : Nat} {tb : Tb} {c : Cc} {X : Cx}
theorem visB_ok (h : CcOk B k c X) {x : Str} (e : visB c x = true) : Vis X.env.scope x := by
  unfold visB at e
  rw [← h.sc] at e
  split at e
  · exact .inl (by assumption)
  · exact .inr (.inl (by assumption))
  · exact .inr (.inr (by assumption))
  · cases e
theorem glB_ok (h : CcOk B k c X) {x : Str} (e : glB c x = true) : Gl X x := by
  unfold glB at e
  rw [← h.sc] at e
  split at e
  · assumption
  · cases e
theorem locB_ok (h : CcOk B k c X) {x : Str} (e : locB c x = true) : Loc X.env.scope x ∧ (X.fn x = true ∨ X.env.scope.names.lookup x = some .local) := by
  unfold locB at e
  rw [← h.sc] at e
  split at e
  · rename_i e1
    exact ⟨.inl e1, .inr e1⟩
  · rename_i e1
    refine ⟨.inr e1, .inl ?_⟩
    have hf := h.fn
    cases eb : c.blk with
    | none =>
      rw [eb] at hf
      exact hf x
    | some s =>
      rw [eb] at hf e
      exact hf x (of_decide_eq_true e)
  · cases e
theorem nm1_ok {x : Str} (e : nm1 x = true) : (x == ("__debug__" : Str)) = false := by
  exact (Bool.not_eq_true' _).mp e
theorem nm2_ok {x : Str} (e : nm2 x = true) : (x == ("__debug__" : Str)) = false ∧ (x == ("__classdict__" : Str)) = false := by
  unfold nm2 at e
  simp only [Bool.and_eq_true, Bool.not_eq_true'] at e
  exact e
end

/-! the comparison -/
def tgOk (c : Cc) : List Tg → List Expr → Bool
  | [], [] => true
  | .name i :: ts, x :: xs => (match unName x with
    | some n => decide (c.N[i]? = some n) && locB c n
    | none => false) && tgOk c ts xs
  | _, _ => false
/-- a target: a name, or a row of names (and of such rows) -/
def tgC (c : Cc) : Tg → Expr → Bool
  | .name i, x => (match unName x with
    | some n => decide (c.N[i]? = some n) && locB c n
    | none => false)
  | .tup ts, x => (match unTup x with
    | some xs => tgOk c ts xs
    | none => false)
/-- what is walked: the parts of its expression -/
def itX (c : Cc) (ik : IK) (tg : Expr) (x : Expr) : Option (List Expr) := match ik with
  | .seq => some [x]
  | .range => (match unCall x with
    | some (f, xs) => if decide (f = "range") && glB c f && (xs.length == 1 || xs.length == 2) then some xs else none
    | none => none)
  | .enum => (match unCall x with
    | some (f, xs) => if decide (f = "enumerate") && glB c f && xs.length == 1 && (unTup tg).isSome then some xs else none
    | none => none)
  | .zip => (match unCall x with
    | some (f, xs) => if decide (f = "zip") && glB c f && xs.length == 2 && (unTup tg).isSome then some xs else none
    | none => none)
  | .rev => (match unCall x with
    | some (f, xs) => if decide (f = "reversed") && glB c f && xs.length == 1 then some xs else none
    | none => none)
  | .revRange => (match unCall x with
    | some (f, [y]) => (match unCall y with
      | some (g, xs) => if decide (f = "reversed") && glB c f && decide (g = "range") && glB c g && (xs.length == 1 || xs.length == 2) then some xs else none
      | none => none)
    | _ => none)
def opOk : Operator → Bool
  | .MatMult => false
  | .Div => false
  | .LShift => false
  | .RShift => false
  | _ => true
def cstOk (d : D) (c : Const) : Bool := match d, c with
  | .non, .none => true
  | .bl b, .bool b' => b == b'
  | .int i, .int j => decide (i = j)
  | .str s, .str t => decide (s = t)
  | _, _ => false
def ownN (c : Cc) (own : List Nat) : List (Str × Nat) := own.map fun j => ((c.N[j]?).getD "", j)
def tyOf : Ty → Str
  | .int => "int"
  | .bool => "bool"
  | .str => "str"
  | .tuple => "tuple"
  | .list => "list"
mutual
def Tg.inB (own : List Nat) : Tg → Bool
  | .name i => own.contains i
  | .tup ts => Tg.inBs own ts
def Tg.inBs (own : List Nat) : List Tg → Bool
  | [] => true
  | t :: ts => Tg.inB own t && Tg.inBs own ts
end
mutual
def chkE (tb : Tb) : E → Cc → Expr → Bool
  | .var i, c, x => (match unName x with
    | some n => decide (c.N[i]? = some n) && visB c n && nm2 n
    | none => false)
  | .cst d, _, x => (match unConst x with
    | some k => cstOk d k
    | none => false)
  | .glb j, c, x => (match unName x with
    | some n => glB c n && decide (tb.cs.lookup n = some j) && nm1 n
    | none => false)
  | .tup es, c, x => (match unTup x with
    | some xs => chkL tb es c xs
    | none => false)
  | .lst es, c, x => (match unLst x with
    | some xs => chkL tb es c xs
    | none => false)
  | .mls es, c, x => (match unLst x with
    | some xs => chkL tb es c xs
    | none => false)
  | .bin op a b, c, x => (match unBin x with
    | some (op', y, z) => decide (op = op') && opOk op && chkE tb a c y && chkE tb b c z
    | none => false)
  | .neg a, c, x => (match unUn x with
    | some (op', y) => decide (op' = .USub) && chkE tb a c y
    | none => false)
  | .nt a, c, x => (match unUn x with
    | some (op', y) => decide (op' = .Not) && chkE tb a c y
    | none => false)
  | .cmp op a b, c, x => (match unCmp x with
    | some (y, [op'], [z]) => decide (op = op') && chkE tb a c y && chkE tb b c z
    | _ => false)
  | .chain op op2 a b d, c, x => (match unCmp x with
    | some (y, [o, o2], [z, w]) => decide (op = o) && decide (op2 = o2) && chkE tb a c y && chkE tb b c z && chkE tb d c w
    | _ => false)
  | .bool and es, c, x => (match unBool x with
    | some (op, xs) => decide (op = boolOpOf and) && !es.isEmpty && chkL tb es c xs
    | none => false)
  | .ite a b d, c, x => (match unIte x with
    | some (y, z, w) => chkE tb a c y && chkE tb b c z && chkE tb d c w
    | none => false)
  | .idx a i, c, x => (match unSub x with
    | some (y, z) => chkE tb a c y && chkE tb i c z
    | none => false)
  | .slc a lo hi, c, x => (match unSub x with
    | some (y, z) => (match unSlice z with
      | some (u, v) => chkE tb a c y && chkL tb lo c u.toList && chkL tb hi c v.toList
      | none => false)
    | none => false)
  | .fld a f, c, x => (match unAttr x with
    | some (y, g) => decide (f = g) && attrX y && chkE tb a c y
    | none => false)
  | .call f args kp kws, c, x => kp.isEmpty && kws.isEmpty && (match unCall x with
    | some (n, xs) => glB c n && nm1 n && decide (tb.fn.lookup n = some f) && decide (tb.ar[f]? = some args.length) && chkL tb args c xs
    | none => false)
  | .mk k args kp kws, c, x => !args.isEmpty && (match unCallK x with
    | some (n, xs, ks) => glB c n && nm1 n && (tb.rc.any fun q => decide (q.1 = n) && q.2.1 == k && q.2.2.1 == args.length && kwNames ks q.2.2.2.1 && decide (q.2.2.2.2 = kp)) && chkL tb args c xs && chkL tb kws c (ks.map (·.value))
    | none => false)
  | .bcall b args, c, x => (match unCall x with
    | some (n, xs) => (match b with
      | .isinst t => (match xs with
        | [y, z] => decide (n = "isinstance") && glB c n && (match unName z with
          | some m => decide (m = tyOf t) && glB c m
          | none => false) && chkL tb args c [y]
        | _ => false)
      | _ => decide (biName b = some n) && glB c n && !args.isEmpty && chkL tb args c xs)
    | none => false)
  | .mcl b o args, c, x => (match unMeth x with
    | some (y, m, xs) => (match b with
      | .index => decide (m = "index")
      | _ => false) && attrX y && decide (xs.length < 30) && chkE tb o c y && chkL tb args c xs
    | none => false)
  | .lc elt tg ik its ifs own, c, x => (match unLc x with
    | some (ex, tx, ix, cs, scope) => (match itX c ik tx ix with
      | some xs => chkL tb its c xs && blkC c.N c.sc scope (ownN c own) && tg.inB own && tgC ⟨relS scope c.sc, c.N, some scope⟩ tg tx && decide (cs.length ≤ 1) && chkL tb ifs ⟨relS scope c.sc, c.N, some scope⟩ cs && chkE tb elt ⟨relS scope c.sc, c.N, some scope⟩ ex
      | none => false)
    | none => false)
  | .nev, _, x => plainX x
def chkL (tb : Tb) : List E → Cc → List Expr → Bool
  | [], _, xs => xs.isEmpty
  | e :: es, c, xs => (match xs with
    | x :: xs => chkE tb e c x && chkL tb es c xs
    | [] => false)
end
end Ev

set_option Elab.async false
set_option linter.all false
set_option maxRecDepth 100000
set_option maxHeartbeats 2000000
/-! Ev18: the comparison is right: expressions. -/
namespace Ev
open PySem PySem.Spec PyProof.Rows L2

section
variable {B : Bs} {cal : Nat → List D → Sto → Res D} {k : Nat} {tb : Tb} {c : Cc} {X : Cx}
theorem CcOk.hK (h : CcOk B k c X) : X.K = B.T.K := h.inB.K
theorem CcOk.blk (h : CcOk B k c X) {s : Shared} {H : Hp} {C : Addr} {cl : List (Str × Addr)} {fp : List Addr} {scope : Scope} : CcOk B k ⟨relS scope c.sc, c.N, some scope⟩ (X.blk s H scope (compEnvC scope cl C X.env) fp) where
  inB := ⟨h.inB.prog, h.inB.w, h.inB.K, h.inB.mg, h.inB.base⟩
  sc := by
    show relS scope X.env.scope = _
    rw [h.sc]
  N := h.N
  nd := h.nd
  calm := h.calm
  fn := fun x e => by
    show (scope.names.lookup x == some NameKind.cell) = true
    rw [e]
    rfl
  room := h.room
  two := h.two
theorem TbOk.mg (ht : TbOk B cal k tb) (h : CcOk B k c X) {x : Str} (hx : x ∈ isNames) : X.mg x = none := by rw [h.inB.mg]; exact ht.bi x hx

/-! targets -/
theorem tgName (h : CcOk B k c X) {i : Nat} {x : Expr} (e : (match unName x with
    | some n => decide (c.N[i]? = some n) && locB c n
    | none => false) = true) : PG X x (tG B.T (.name i)) ∧ (∀ env es, (assignEach (x :: es) env).map (·.2) = assign x env :: (assignEach es env).map (·.2)) ∧ (∀ env es, (assignEach (x :: es) env).length = (assignEach es env).length + 1) ∧
      ∀ env es, (assignEach es env).findIdx? (·.1) = none → (assignEach (x :: es) env).findIdx? (·.1) = none := by
  cases e1 : unName x with
  | none => rw [e1] at e; cases e
  | some n =>
    rw [e1] at e
    obtain ⟨p, rfl⟩ := unName_ok e1
    obtain ⟨e2, e3⟩ := Bool.and_eq_true_iff.mp e
    obtain ⟨l1, l2⟩ := locB_ok h e3
    refine ⟨pg_nameE h.nd (by rw [h.N]; exact of_decide_eq_true e2) l1 l2, fun _ _ => rfl, fun _ _ => rfl, fun env es z => ?_⟩
    show List.findIdx? (·.1) ((false, assign (.Name n p) env) :: assignEach es env) = none
    rw [List.findIdx?_cons, z]
    rfl
theorem tgOk_ok (h : CcOk B k c X) : ∀ {ts : List Tg} {xs : List Expr}, tgOk c ts xs = true → PGs X xs (tGs B.T ts) ∧ xs.length = ts.length ∧ (assignEach xs X.env).length = xs.length ∧ (assignEach xs X.env).findIdx? (·.1) = none
  | [], [], _ => ⟨pgs_nilE, rfl, rfl, rfl⟩
  | [], _ :: _, e => by cases e
  | .tup _ :: _, _, e => by cases e
  | .name i :: ts, [], e => by cases e
  | .name i :: ts, x :: xs, e => by
    obtain ⟨e1, e2⟩ := Bool.and_eq_true_iff.mp (show ((match unName x with
      | some n => decide (c.N[i]? = some n) && locB c n
      | none => false) && tgOk c ts xs) = true from e)
    obtain ⟨h1, h2, h3, h4⟩ := tgName h e1
    obtain ⟨g1, g2, g3, g4⟩ := tgOk_ok h e2
    exact ⟨pgs_consE h1 g1 (h2 _ _), by rw [List.length_cons, List.length_cons, g2], by rw [h3, g3]; rfl, h4 _ _ g4⟩
theorem tgC_ok (h : CcOk B k c X) {t : Tg} {x : Expr} (e : tgC c t x = true) : PG X x (tG B.T t) ∧ (assignEach [x] X.env).map (·.2) = [assign x X.env] := by
  cases t with
  | name i =>
    obtain ⟨h1, h2, _⟩ := tgName h (show (match unName x with
      | some n => decide (c.N[i]? = some n) && locB c n
      | none => false) = true from e)
    exact ⟨h1, h2 _ _⟩
  | tup ts =>
    have e : (match unTup x with
      | some xs => tgOk c ts xs
      | none => false) = true := e
    cases e1 : unTup x with
    | none => rw [e1] at e; cases e
    | some xs =>
      rw [e1] at e
      obtain ⟨kk, p, rfl⟩ := unTup_ok e1
      obtain ⟨g1, g2, g3, g4⟩ := tgOk_ok h e
      exact ⟨pg_tupE h.hK h.calm g1 g2 g3 g4, rfl⟩

/-! what is walked -/
theorem itX_ok (ht : TbOk B cal k tb) (h : CcOk B k c X) {ik : IK} {tx ix : Expr} {xs : List Expr} {its : List E} (e : itX c ik tx ix = some xs) (he : SEs B.T cal X its xs) {md : Md} (hm : md = .p ∨ md = .b) :
    PI X tx ix (tI X B.T cal md ik its) ∧ ∀ v, foldedSetIterable ix X.env v = pure v := by
  have mg : ∀ {x : Str}, x ∈ isNames → X.mg x = none := fun hx => ht.mg h hx
  cases ik with
  | seq =>
    cases (show some [ix] = some xs from e)
    cases he with
    | cons h1 t =>
      cases t
      exact ⟨pi_seqE h.hK hm h1, h1.lt.fold _⟩
  | range =>
    have e : (match unCall ix with
      | some (f, xs) => if decide (f = "range") && glB c f && (xs.length == 1 || xs.length == 2) then some xs else none
      | none => none) = some xs := e
    cases e1 : unCall ix with
    | none => rw [e1] at e; cases e
    | some q =>
      obtain ⟨f, ys⟩ := q
      rw [e1] at e
      obtain ⟨e2, rfl⟩ := ite_some e
      simp only [Bool.and_eq_true, decide_eq_true_eq, Bool.or_eq_true, beq_iff_eq] at e2
      obtain ⟨⟨rfl, e3⟩, e4⟩ := e2
      obtain ⟨p, p2, rfl⟩ := unCall_ok e1
      refine ⟨?_, fun _ => rfl⟩
      match ys, its, he, e4 with
      | [y], [e], .cons h1 .nil, _ => exact pi_range1E hm (glB_ok h e3) (mg (by decide)) h1
      | [y, z], [e, e'], .cons h1 (.cons h2 .nil), _ => exact pi_range2E hm (glB_ok h e3) (mg (by decide)) h1 h2
  | enum =>
    have e : (match unCall ix with
      | some (f, xs) => if decide (f = "enumerate") && glB c f && xs.length == 1 && (unTup tx).isSome then some xs else none
      | none => none) = some xs := e
    cases e1 : unCall ix with
    | none => rw [e1] at e; cases e
    | some q =>
      obtain ⟨f, ys⟩ := q
      rw [e1] at e
      obtain ⟨e2, rfl⟩ := ite_some e
      simp only [Bool.and_eq_true, decide_eq_true_eq, beq_iff_eq] at e2
      obtain ⟨⟨⟨rfl, e3⟩, e4⟩, e5⟩ := e2
      obtain ⟨p, p2, rfl⟩ := unCall_ok e1
      obtain ⟨us, eu⟩ := Option.isSome_iff_exists.mp e5
      obtain ⟨kk, p3, rfl⟩ := unTup_ok eu
      refine ⟨?_, fun _ => rfl⟩
      match ys, its, he, e4 with
      | [y], [e], .cons h1 .nil, _ => exact pi_enumE h.hK hm (glB_ok h e3) (mg (by decide)) h1
  | zip =>
    have e : (match unCall ix with
      | some (f, xs) => if decide (f = "zip") && glB c f && xs.length == 2 && (unTup tx).isSome then some xs else none
      | none => none) = some xs := e
    cases e1 : unCall ix with
    | none => rw [e1] at e; cases e
    | some q =>
      obtain ⟨f, ys⟩ := q
      rw [e1] at e
      obtain ⟨e2, rfl⟩ := ite_some e
      simp only [Bool.and_eq_true, decide_eq_true_eq, beq_iff_eq] at e2
      obtain ⟨⟨⟨rfl, e3⟩, e4⟩, e5⟩ := e2
      obtain ⟨p, p2, rfl⟩ := unCall_ok e1
      obtain ⟨us, eu⟩ := Option.isSome_iff_exists.mp e5
      obtain ⟨kk, p3, rfl⟩ := unTup_ok eu
      refine ⟨?_, fun _ => rfl⟩
      match ys, its, he, e4 with
      | [y, z], [e, e'], .cons h1 (.cons h2 .nil), _ => exact pi_zipE h.hK hm (glB_ok h e3) (mg (by decide)) h1 h2
  | rev =>
    have e : (match unCall ix with
      | some (f, xs) => if decide (f = "reversed") && glB c f && xs.length == 1 then some xs else none
      | none => none) = some xs := e
    cases e1 : unCall ix with
    | none => rw [e1] at e; cases e
    | some q =>
      obtain ⟨f, ys⟩ := q
      rw [e1] at e
      obtain ⟨e2, rfl⟩ := ite_some e
      simp only [Bool.and_eq_true, decide_eq_true_eq, beq_iff_eq] at e2
      obtain ⟨⟨rfl, e3⟩, e4⟩ := e2
      obtain ⟨p, p2, rfl⟩ := unCall_ok e1
      refine ⟨?_, fun _ => rfl⟩
      match ys, its, he, e4 with
      | [y], [e], .cons h1 .nil, _ => exact pi_revE h.hK hm (glB_ok h e3) (mg (by decide)) h1
  | revRange =>
    have e : (match unCall ix with
      | some (f, [y]) => (match unCall y with
        | some (g, xs) => if decide (f = "reversed") && glB c f && decide (g = "range") && glB c g && (xs.length == 1 || xs.length == 2) then some xs else none
        | none => none)
      | _ => none) = some xs := e
    cases e1 : unCall ix with
    | none => rw [e1] at e; cases e
    | some q =>
      obtain ⟨f, ys⟩ := q
      rw [e1] at e
      match ys, e, e1 with
      | [], e, _ => cases e
      | _ :: _ :: _, e, _ => cases e
      | [y], e, e1 =>
      cases e6 : unCall y with
      | none =>
        have e : (match unCall y with
          | some (g, xs) => if decide (f = "reversed") && glB c f && decide (g = "range") && glB c g && (xs.length == 1 || xs.length == 2) then some xs else none
          | none => none) = some xs := e
        rw [e6] at e
        cases e
      | some q2 =>
        obtain ⟨g, zs⟩ := q2
        have e : (match unCall y with
          | some (g, xs) => if decide (f = "reversed") && glB c f && decide (g = "range") && glB c g && (xs.length == 1 || xs.length == 2) then some xs else none
          | none => none) = some xs := e
        rw [e6] at e
        obtain ⟨e2, rfl⟩ := ite_some e
        simp only [Bool.and_eq_true, decide_eq_true_eq, Bool.or_eq_true, beq_iff_eq] at e2
        obtain ⟨⟨⟨⟨rfl, e3⟩, rfl⟩, e5⟩, e4⟩ := e2
        obtain ⟨p, p2, rfl⟩ := unCall_ok e1
        obtain ⟨p3, p4, rfl⟩ := unCall_ok e6
        refine ⟨?_, fun _ => rfl⟩
        match zs, its, he, e4 with
        | [y], [e], .cons h1 .nil, _ => exact pi_revRange1E hm (glB_ok h e3) (mg (by decide)) (glB_ok h e5) (mg (by decide)) h1
        | [y, z], [e, e'], .cons h1 (.cons h2 .nil), _ => exact pi_revRange2E hm (glB_ok h e3) (mg (by decide)) (glB_ok h e5) (mg (by decide)) h1 h2

/-! builtins -/
theorem bcall_ok (ht : TbOk B cal k tb) (h : CcOk B k c X) {b : BI} {n : Str} {e : E} {es : List E} {x : Expr} {xs : List Expr} {p pos : Pos} (hb : biName b = some n) (hg : glB c n = true) (he : SEs B.T cal X (e :: es) (x :: xs)) : SE B.T cal X (.bcall b (e :: es)) (.Call (.Name n p) (x :: xs) [] pos) := by
  have mg : ∀ {x : Str}, x ∈ isNames → X.mg x = none := fun hx => ht.mg h hx
  have g := glB_ok h hg
  cases b <;> first | cases (show none = some n from hb) | skip
  · cases hb; exact se_bi h.hK (b_len h.hK) g (mg (by decide)) boot_len he (by decide) (by decide)
  · cases hb; exact se_ty h.hK b_int g (mg (by decide)) boot_int he (by decide) (by decide)
  · cases hb; exact se_bi h.hK b_abs g (mg (by decide)) boot_abs he (by decide) (by decide)
  · cases hb; exact se_bi h.hK (b_max2 h.calm) g (mg (by decide)) boot_max he (by decide) (by decide)
  · cases hb; exact se_bi h.hK (b_min2 h.calm) g (mg (by decide)) boot_min he (by decide) (by decide)
  · cases hb; exact se_ty h.hK (b_tuple h.hK) g (mg (by decide)) boot_tuple he (by decide) (by decide)
  · cases hb; exact se_ty h.hK (b_list h.hK) g (mg (by decide)) boot_list he (by decide) (by decide)
  · cases hb; exact se_bi h.hK (b_any h.calm) g (mg (by decide)) boot_any he (by decide) (by decide)
  · cases hb; exact se_bi h.hK (b_all h.calm) g (mg (by decide)) boot_all he (by decide) (by decide)
  · cases hb; exact se_ty h.hK b_bool g (mg (by decide)) boot_bool he (by decide) (by decide)
  · cases hb; exact se_bi h.hK (b_sum h.calm) g (mg (by decide)) boot_sum he (by decide) (by decide)
  · cases hb; exact se_ty h.hK b_range g (mg (by decide)) boot_range he (by decide) (by decide)
theorem boot_ty (t : Ty) : bootBuiltins (tyOf t) = some (.type t.name) ∧ tyOf t ∈ isNames ∧ tyOf t ≠ "__name__" ∧ (tyOf t == ("__debug__" : Str)) = false := by
  cases t
  · exact ⟨boot_int, by decide, by decide, by decide⟩
  · exact ⟨boot_bool, by decide, by decide, by decide⟩
  · exact ⟨boot_str, by decide, by decide, by decide⟩
  · exact ⟨boot_tuple, by decide, by decide, by decide⟩
  · exact ⟨boot_list, by decide, by decide, by decide⟩
end
end Ev

set_option Elab.async false
set_option linter.all false
set_option maxRecDepth 100000
set_option maxHeartbeats 4000000
/-! Ev19: the comparison is right: expressions, all. -/
namespace Ev
open PySem PySem.Spec PyProof.Rows L2

section
variable {X : Cx} {T : Tx} {cal : Nat → List D → Sto → Res D}
theorem pe_none {x : Expr} {e : E} {md : Md} (h : ∀ l m, evM T.G cal e md l m = .bad) : PE X x (tE X T cal md e) := ⟨fun pins s σ H Q I q => by
  obtain ⟨Av, r, m, l, S, w⟩ := q
  rw [h] at w
  exact w.elim⟩
theorem se_nev {x : Expr} (h : Lt x) : SE T cal X .nev x := ⟨pe_none fun _ _ => rfl, pe_none fun _ _ => rfl, pt_none fun _ _ => rfl, h⟩
theorem tTs_nil : PTs X [] (tTs X T cal true []) := ⟨fun pins s σ H Q I q => by
  refine pts_nil.run pins s σ H Q I ?_
  obtain ⟨Av, r, m, l, S, w⟩ := q
  exact Wpe.ok (show Wpe X T Av (wd Av r l σ H) l σ (Res.ok (D.bl true) m) (fun d m' r' H' => ∀ b, d = .bl b → Q b H') from w) S true rfl⟩
theorem tTs_one {e : E} {x : Expr} (h : SE T cal X e x) : PTs X [x] (tTs X T cal true [e]) := ⟨fun pins s σ H Q I q => by
  refine (pts_one h.t).run pins s σ H Q I ?_
  obtain ⟨Av, r, m, l, S, w⟩ := q
  refine ⟨Av, r, m, l, S, ?_⟩
  have w' : Wpe X T Av (wd Av r l σ H) l σ ((evM T.G cal e .t l m).bind fun k m => match k with
    | .bl k => if k == true then Res.ok (D.bl true) m else Res.ok (D.bl k) m
    | _ => Res.bad) _ := w
  refine (Wpe.bind w').imp fun d m1 r1 H1 _ S1 x1 w1 b hb => ?_
  subst hb
  have w2 : Wpe X T Av (wd Av r1 l σ H1) l σ (if b == true then Res.ok (D.bl true) m1 else Res.ok (D.bl b) m1) _ := w1
  cases b with
  | true => exact Wpe.ok w2 S1 _ rfl
  | false => exact Wpe.ok w2 S1 _ rfl⟩
mutual
theorem Tg.inB_ok {own : List Nat} : ∀ {t : Tg}, t.inB own = true → ∀ j ∈ t.slots, j ∈ own
  | .name i, h, j, hj => by
    have : j = i := List.mem_singleton.mp hj
    subst this
    exact List.contains_iff_mem.mp h
  | .tup ts, h, j, hj => Tg.inBs_ok (show Tg.inBs own ts = true from h) j hj
theorem Tg.inBs_ok {own : List Nat} : ∀ {ts : List Tg}, Tg.inBs own ts = true → ∀ j ∈ Tg.slotsAll ts, j ∈ own
  | [], _, j, hj => by cases hj
  | t :: ts, h, j, hj => by
    obtain ⟨h1, h2⟩ := Bool.and_eq_true_iff.mp (show (Tg.inB own t && Tg.inBs own ts) = true from h)
    rcases List.mem_append.mp (show j ∈ Tg.slots t ++ Tg.slotsAll ts from hj) with z | z
    · exact Tg.inB_ok h1 j z
    · exact Tg.inBs_ok h2 j z
end
theorem SEs.toO {es : List E} {u : Option Expr} (h : SEs T cal X es u.toList) : SEo T cal X es u := by
  cases u with
  | none =>
    cases h
    exact .no
  | some x =>
    cases h with
    | cons h t =>
      cases t
      exact .so h
end
theorem ownN_snd {c : Cc} {own : List Nat} : (ownN c own).map (·.2) = own := by
  unfold ownN
  rw [List.map_map]
  exact List.map_id own
mutual
theorem chkE_ok {B : Bs} {cal : Nat → List D → Sto → Res D} {k : Nat} {tb : Tb} (ht : TbOk B cal k tb) : ∀ (e : E) {c : Cc} {x : Expr} {X : Cx}, CcOk B k c X → chkE tb e c x = true → SE B.T cal X e x
  | .var i, c, x, X, h, e0 => by
    have e : (match unName x with
      | some n => decide (c.N[i]? = some n) && visB c n && nm2 n
      | none => false) = true := e0
    cases e1 : unName x with
    | none => rw [e1] at e; cases e
    | some n =>
      rw [e1] at e
      obtain ⟨p, rfl⟩ := unName_ok e1
      simp only [Bool.and_eq_true, decide_eq_true_eq] at e
      obtain ⟨n1, n2⟩ := nm2_ok e.2
      exact se_var h.hK (by rw [h.N]; exact e.1.1) (visB_ok h e.1.2) n1 n2
  | .cst d, c, x, X, h, e0 => by
    have e : (match unConst x with
      | some k => cstOk d k
      | none => false) = true := e0
    cases e1 : unConst x with
    | none => rw [e1] at e; cases e
    | some n =>
      rw [e1] at e
      obtain ⟨kk, p, rfl⟩ := unConst_ok e1
      have e : cstOk d n = true := e
      unfold cstOk at e
      split at e
      · exact se_none h.hK
      · have := eq_of_beq e
        subst this
        exact se_bool h.hK
      · have := of_decide_eq_true e
        subst this
        exact se_int h.hK
      · have := of_decide_eq_true e
        subst this
        exact se_str h.hK
      · cases e
  | .glb j, c, x, X, h, e0 => by
    have e : (match unName x with
      | some n => glB c n && decide (tb.cs.lookup n = some j) && nm1 n
      | none => false) = true := e0
    cases e1 : unName x with
    | none => rw [e1] at e; cases e
    | some n =>
      rw [e1] at e
      obtain ⟨p, rfl⟩ := unName_ok e1
      simp only [Bool.and_eq_true, decide_eq_true_eq] at e
      obtain ⟨u, v, d, f1, f2, f3, f4⟩ := ht.cs n j e.1.2
      exact se_glb h.hK (glB_ok h e.1.1) (by rw [h.inB.mg]; exact f1) f2 f3 f4 (nm1_ok e.2)
  | .tup es, c, x, X, h, e0 => by
    have e : (match unTup x with
      | some xs => chkL tb es c xs
      | none => false) = true := e0
    cases e1 : unTup x with
    | none => rw [e1] at e; cases e
    | some xs =>
      rw [e1] at e
      obtain ⟨kk, p, rfl⟩ := unTup_ok e1
      exact se_tup h.hK (chkL_ok ht es h e)
  | .lst es, c, x, X, h, e0 => by
    have e : (match unLst x with
      | some xs => chkL tb es c xs
      | none => false) = true := e0
    cases e1 : unLst x with
    | none => rw [e1] at e; cases e
    | some xs =>
      rw [e1] at e
      obtain ⟨p, rfl⟩ := unLst_ok e1
      exact se_lst h.hK (chkL_ok ht es h e)
  | .mls es, c, x, X, h, e0 => by
    have e : (match unLst x with
      | some xs => chkL tb es c xs
      | none => false) = true := e0
    cases e1 : unLst x with
    | none => rw [e1] at e; cases e
    | some xs =>
      rw [e1] at e
      obtain ⟨p, rfl⟩ := unLst_ok e1
      exact se_mls h.hK (chkL_ok ht es h e)
  | .bin op a b, c, x, X, h, e0 => by
    have e : (match unBin x with
      | some (op', y, z) => decide (op = op') && opOk op && chkE tb a c y && chkE tb b c z
      | none => false) = true := e0
    cases e1 : unBin x with
    | none => rw [e1] at e; cases e
    | some q =>
      obtain ⟨op', y, z⟩ := q
      rw [e1] at e
      obtain ⟨p, rfl⟩ := unBin_ok e1
      simp only [Bool.and_eq_true, decide_eq_true_eq] at e
      obtain ⟨⟨⟨rfl, e2⟩, e3⟩, e4⟩ := e
      exact se_bin h.hK (by cases op <;> first | rfl | cases e2) (chkE_ok ht a h e3) (chkE_ok ht b h e4)
  | .neg a, c, x, X, h, e0 => by
    have e : (match unUn x with
      | some (op', y) => decide (op' = .USub) && chkE tb a c y
      | none => false) = true := e0
    cases e1 : unUn x with
    | none => rw [e1] at e; cases e
    | some q =>
      obtain ⟨op', y⟩ := q
      rw [e1] at e
      obtain ⟨p, rfl⟩ := unUn_ok e1
      simp only [Bool.and_eq_true, decide_eq_true_eq] at e
      obtain ⟨rfl, e3⟩ := e
      exact se_neg h.hK (chkE_ok ht a h e3)
  | .nt a, c, x, X, h, e0 => by
    have e : (match unUn x with
      | some (op', y) => decide (op' = .Not) && chkE tb a c y
      | none => false) = true := e0
    cases e1 : unUn x with
    | none => rw [e1] at e; cases e
    | some q =>
      obtain ⟨op', y⟩ := q
      rw [e1] at e
      obtain ⟨p, rfl⟩ := unUn_ok e1
      simp only [Bool.and_eq_true, decide_eq_true_eq] at e
      obtain ⟨rfl, e3⟩ := e
      exact se_nt h.hK (chkE_ok ht a h e3)
  | .cmp op a b, c, x, X, h, e0 => by
    have e : (match unCmp x with
      | some (y, [op'], [z]) => decide (op = op') && chkE tb a c y && chkE tb b c z
      | _ => false) = true := e0
    cases e1 : unCmp x with
    | none => rw [e1] at e; cases e
    | some q =>
      obtain ⟨y, ops, zs⟩ := q
      rw [e1] at e
      match ops, zs, e, e1 with
      | [op'], [z], e, e1 =>
        obtain ⟨p, rfl⟩ := unCmp_ok e1
        have e : (decide (op = op') && chkE tb a c y && chkE tb b c z) = true := e
        simp only [Bool.and_eq_true, decide_eq_true_eq] at e
        obtain ⟨⟨rfl, e3⟩, e4⟩ := e
        exact se_cmp h.hK h.units (chkE_ok ht a h e3) (chkE_ok ht b h e4)
  | .chain op op2 a b d, c, x, X, h, e0 => by
    have e : (match unCmp x with
      | some (y, [o, o2], [z, w]) => decide (op = o) && decide (op2 = o2) && chkE tb a c y && chkE tb b c z && chkE tb d c w
      | _ => false) = true := e0
    cases e1 : unCmp x with
    | none => rw [e1] at e; cases e
    | some q =>
      obtain ⟨y, ops, zs⟩ := q
      rw [e1] at e
      match ops, zs, e, e1 with
      | [o, o2], [z, w], e, e1 =>
        obtain ⟨p, rfl⟩ := unCmp_ok e1
        have e : (decide (op = o) && decide (op2 = o2) && chkE tb a c y && chkE tb b c z && chkE tb d c w) = true := e
        simp only [Bool.and_eq_true, decide_eq_true_eq] at e
        obtain ⟨⟨⟨⟨rfl, rfl⟩, e3⟩, e4⟩, e5⟩ := e
        exact se_chain h.hK h.units (chkE_ok ht a h e3) (chkE_ok ht b h e4) (chkE_ok ht d h e5)
  | .bool and es, c, x, X, h, e0 => by
    have e : (match unBool x with
      | some (op, xs) => decide (op = boolOpOf and) && !es.isEmpty && chkL tb es c xs
      | none => false) = true := e0
    cases e1 : unBool x with
    | none => rw [e1] at e; cases e
    | some q =>
      obtain ⟨op, xs⟩ := q
      rw [e1] at e
      obtain ⟨p, rfl⟩ := unBool_ok e1
      simp only [Bool.and_eq_true, decide_eq_true_eq, Bool.not_eq_true'] at e
      obtain ⟨⟨rfl, e3⟩, e4⟩ := e
      exact se_boolop h.hK (chkL_ok ht es h e4) (by intro z; subst z; cases e3)
  | .ite a b d, c, x, X, h, e0 => by
    have e : (match unIte x with
      | some (y, z, w) => chkE tb a c y && chkE tb b c z && chkE tb d c w
      | none => false) = true := e0
    cases e1 : unIte x with
    | none => rw [e1] at e; cases e
    | some q =>
      obtain ⟨y, z, w⟩ := q
      rw [e1] at e
      obtain ⟨p, rfl⟩ := unIte_ok e1
      simp only [Bool.and_eq_true] at e
      exact se_ite (chkE_ok ht a h e.1.1) (chkE_ok ht b h e.1.2) (chkE_ok ht d h e.2)
  | .idx a i, c, x, X, h, e0 => by
    have e : (match unSub x with
      | some (y, z) => chkE tb a c y && chkE tb i c z
      | none => false) = true := e0
    cases e1 : unSub x with
    | none => rw [e1] at e; cases e
    | some q =>
      obtain ⟨y, z⟩ := q
      rw [e1] at e
      obtain ⟨p, rfl⟩ := unSub_ok e1
      simp only [Bool.and_eq_true] at e
      exact se_idx h.hK (chkE_ok ht a h e.1) (chkE_ok ht i h e.2)
  | .slc a lo hi, c, x, X, h, e0 => by
    have e : (match unSub x with
      | some (y, z) => (match unSlice z with
        | some (u, v) => chkE tb a c y && chkL tb lo c u.toList && chkL tb hi c v.toList
        | none => false)
      | none => false) = true := e0
    cases e1 : unSub x with
    | none => rw [e1] at e; cases e
    | some q =>
      obtain ⟨y, z⟩ := q
      rw [e1] at e
      obtain ⟨p, rfl⟩ := unSub_ok e1
      have e5 : (match unSlice z with
        | some (u, v) => chkE tb a c y && chkL tb lo c u.toList && chkL tb hi c v.toList
        | none => false) = true := e
      clear e e0
      cases e2 : unSlice z with
      | none => rw [e2] at e5; cases e5
      | some q2 =>
        obtain ⟨u, v⟩ := q2
        rw [e2] at e5
        obtain ⟨p2, rfl⟩ := unSlice_ok e2
        simp only [Bool.and_eq_true] at e5
        exact se_slc h.hK (chkE_ok ht a h e5.1.1) (chkL_ok ht lo h e5.1.2).toO (chkL_ok ht hi h e5.2).toO
  | .fld a f, c, x, X, h, e0 => by
    have e : (match unAttr x with
      | some (y, g) => decide (f = g) && attrX y && chkE tb a c y
      | none => false) = true := e0
    cases e1 : unAttr x with
    | none => rw [e1] at e; cases e
    | some q =>
      obtain ⟨y, g⟩ := q
      rw [e1] at e
      obtain ⟨p, rfl⟩ := unAttr_ok e1
      simp only [Bool.and_eq_true, decide_eq_true_eq] at e
      obtain ⟨⟨rfl, e3⟩, e4⟩ := e
      exact se_fld h.hK (chkE_ok ht a h e4) (attrX_ok e3 _ _) fun c' ns h1 h2 => ht.fld c' ns f h1 h2
  | .call f args kp kws, c, x, X, h, e0 => by
    have e : (kp.isEmpty && kws.isEmpty && (match unCall x with
      | some (n, xs) => glB c n && nm1 n && decide (tb.fn.lookup n = some f) && decide (tb.ar[f]? = some args.length) && chkL tb args c xs
      | none => false)) = true := e0
    simp only [Bool.and_eq_true, List.isEmpty_iff] at e
    obtain ⟨⟨rfl, rfl⟩, e⟩ := e
    cases e1 : unCall x with
    | none => rw [e1] at e; cases e
    | some q =>
      obtain ⟨n, xs⟩ := q
      rw [e1] at e
      obtain ⟨p, p2, rfl⟩ := unCall_ok e1
      simp only [Bool.and_eq_true, decide_eq_true_eq] at e
      obtain ⟨⟨⟨⟨e2, e3⟩, e4⟩, e5⟩, e6⟩ := e
      obtain ⟨m, df, f1, f2, f3⟩ := ht.fn n f e4
      rw [f3] at e5
      exact se_call h.inB rfl h.hK f1 h.room (glB_ok h e2) (nm1_ok e3) f2 (Option.some.inj e5).symm (chkL_ok ht args h e6)
  | .mk kk args kp kws, c, x, X, h, e0 => by
    have e : (!args.isEmpty && (match unCallK x with
      | some (n, xs, ks) => glB c n && nm1 n && (tb.rc.any fun q => decide (q.1 = n) && q.2.1 == kk && q.2.2.1 == args.length && kwNames ks q.2.2.2.1 && decide (q.2.2.2.2 = kp)) && chkL tb args c xs && chkL tb kws c (ks.map (·.value))
      | none => false)) = true := e0
    simp only [Bool.and_eq_true, Bool.not_eq_true'] at e
    obtain ⟨e0, e⟩ := e
    cases e1 : unCallK x with
    | none => rw [e1] at e; cases e
    | some q =>
      obtain ⟨n, xs, ks⟩ := q
      rw [e1] at e
      obtain ⟨p, p2, rfl⟩ := unCallK_ok e1
      simp only [Bool.and_eq_true, List.any_eq_true, decide_eq_true_eq, beq_iff_eq] at e
      obtain ⟨⟨⟨⟨e2, e3⟩, ⟨⟨n', c', m, ks', kp'⟩, hq, q1⟩⟩, e5⟩, e6⟩ := e
      obtain ⟨⟨⟨⟨q1, q2⟩, q3⟩, q4⟩, q5⟩ := q1
      have q1 : n' = n := q1
      have q2 : c' = kk := q2
      have q3 : m = args.length := q3
      have q5 : kp' = kp := q5
      subst q1 q2 q5
      exact se_mk h.inB rfl h.hK (ht.rc _ _ _ _ _ hq) (h.room.mono h.two) (glB_ok h e2) (nm1_ok e3) q3.symm (by intro z; subst z; cases e0) (chkL_ok ht args h e5) (chkL_ok ht kws h e6) q4
  | .bcall b args, c, x, X, h, e0 => by
    have e : (match unCall x with
      | some (n, xs) => (match (generalizing := false) b with
        | .isinst t => (match (generalizing := false) xs with
          | [y, z] => decide (n = "isinstance") && glB c n && (match unName z with
            | some m => decide (m = tyOf t) && glB c m
            | none => false) && chkL tb args c [y]
          | _ => false)
        | _ => decide (biName b = some n) && glB c n && !args.isEmpty && chkL tb args c xs)
      | none => false) = true := e0
    cases e1 : unCall x with
    | none => rw [e1] at e; cases e
    | some q =>
      obtain ⟨n, xs⟩ := q
      rw [e1] at e
      obtain ⟨p, p2, rfl⟩ := unCall_ok e1
      have gen : (decide (biName b = some n) && glB c n && !args.isEmpty && chkL tb args c xs) = true → SE B.T cal X (.bcall b args) (.Call (.Name n p) xs [] p2) := by
        intro e
        simp only [Bool.and_eq_true, decide_eq_true_eq, Bool.not_eq_true'] at e
        obtain ⟨⟨⟨e2, e3⟩, e4⟩, e5⟩ := e
        have hs := chkL_ok ht args h e5
        cases hs with
        | nil => cases e4
        | cons h1 t => exact bcall_ok ht h e2 e3 (.cons h1 t)
      clear e0
      cases b with
      | isinst t =>
        match xs, e with
        | [y, z], e =>
          have e : (decide (n = "isinstance") && glB c n && (match unName z with
            | some m => decide (m = tyOf t) && glB c m
            | none => false) && chkL tb args c [y]) = true := e
          simp only [Bool.and_eq_true, decide_eq_true_eq] at e
          obtain ⟨⟨⟨rfl, e3⟩, e4⟩, e5⟩ := e
          cases e6 : unName z with
          | none => rw [e6] at e4; cases e4
          | some m =>
            rw [e6] at e4
            obtain ⟨p3, rfl⟩ := unName_ok e6
            simp only [Bool.and_eq_true, decide_eq_true_eq] at e4
            obtain ⟨rfl, e7⟩ := e4
            have hs := chkL_ok ht args h e5
            cases hs with
            | cons h1 t' =>
              cases t'
              obtain ⟨b1, b2, b3, b4⟩ := boot_ty t
              exact se_isi h.hK (glB_ok h e3) (ht.mg h (by decide)) (glB_ok h e7) (ht.mg h b2) b1 b3 b4 h1
      | _ => exact gen e
  | .mcl b o args, c, x, X, h, e0 => by
    have e : (match unMeth x with
      | some (y, m, xs) => (match (generalizing := false) b with
        | .index => decide (m = "index")
        | _ => false) && attrX y && decide (xs.length < 30) && chkE tb o c y && chkL tb args c xs
      | none => false) = true := e0
    cases e1 : unMeth x with
    | none => rw [e1] at e; cases e
    | some q =>
      obtain ⟨y, m, xs⟩ := q
      rw [e1] at e
      obtain ⟨p, p2, rfl, hl⟩ := unMeth_ok e1
      simp only [Bool.and_eq_true, decide_eq_true_eq] at e
      obtain ⟨⟨⟨⟨e2, e3⟩, e4⟩, e5⟩, e6⟩ := e
      cases b with
      | index =>
        have := of_decide_eq_true e2
        subst this
        exact se_index h.hK h.units (chkE_ok ht o h e5) (chkL_ok ht args h e6) (attrX_ok e3 _ _) hl e4
      | _ => cases e2
  | .lc elt tg ik its ifs own, c, x, X, h, e0 => by
    have e : (match unLc x with
      | some (ex, tx, ix, cs, scope) => (match itX c ik tx ix with
        | some xs => chkL tb its c xs && blkC c.N c.sc scope (ownN c own) && tg.inB own && tgC ⟨relS scope c.sc, c.N, some scope⟩ tg tx && decide (cs.length ≤ 1) && chkL tb ifs ⟨relS scope c.sc, c.N, some scope⟩ cs && chkE tb elt ⟨relS scope c.sc, c.N, some scope⟩ ex
        | none => false)
      | none => false) = true := e0
    cases e1 : unLc x with
    | none => rw [e1] at e; cases e
    | some q =>
      obtain ⟨ex, tx, ix, cs, scope⟩ := q
      rw [e1] at e
      obtain ⟨p, rfl⟩ := unLc_ok e1
      have e : (match itX c ik tx ix with
        | some xs => chkL tb its c xs && blkC c.N c.sc scope (ownN c own) && tg.inB own && tgC ⟨relS scope c.sc, c.N, some scope⟩ tg tx && decide (cs.length ≤ 1) && chkL tb ifs ⟨relS scope c.sc, c.N, some scope⟩ cs && chkE tb elt ⟨relS scope c.sc, c.N, some scope⟩ ex
        | none => false) = true := e
      cases e2 : itX c ik tx ix with
      | none => rw [e2] at e; cases e
      | some xs =>
        rw [e2] at e
        simp only [Bool.and_eq_true, decide_eq_true_eq] at e
        obtain ⟨⟨⟨⟨⟨⟨e3, e4⟩, e5⟩, e6⟩, e7⟩, e8⟩, e9⟩ := e
        obtain ⟨i1, i2⟩ := itX_ok ht h e2 (chkL_ok ht its h e3) (md := .b) (.inr rfl)
        refine LcOk.se h.hK h.calm h.nd ⟨i1, ⟨ownN c own, ?_, ownN_snd⟩, Tg.inB_ok e5, i2, fun s H C cl fp => (tgC_ok h.blk e6).1, fun s H C cl fp => ?_, fun s H C cl fp => (chkE_ok ht elt h.blk e9).p⟩
        · have := blkOk_by e4
          rw [← h.N, ← h.sc] at this
          exact this
        · have hs := chkL_ok ht ifs (h.blk (s := s) (H := H) (C := C) (cl := cl) (fp := fp)) e8
          match cs, ifs, hs, e7 with
          | [], [], _, _ => exact tTs_nil
          | [y], [f], .cons h1 .nil, _ => exact tTs_one h1
          | _ :: _ :: _, _, _, e7 => simp at e7
  | .nev, c, x, X, h, e0 => se_nev (plainX_lt e0)
theorem chkL_ok {B : Bs} {cal : Nat → List D → Sto → Res D} {k : Nat} {tb : Tb} (ht : TbOk B cal k tb) : ∀ (es : List E) {c : Cc} {xs : List Expr} {X : Cx}, CcOk B k c X → chkL tb es c xs = true → SEs B.T cal X es xs
  | [], c, xs, X, h, e0 => by
    have e : xs.isEmpty = true := e0
    cases xs with
    | nil => exact .nil
    | cons _ _ => cases e
  | e1 :: es, c, xs, X, h, e0 => by
    have e : (match (generalizing := false) xs with
      | x :: xs => chkE tb e1 c x && chkL tb es c xs
      | [] => false) = true := e0
    cases xs with
    | nil => cases e
    | cons x xs =>
      obtain ⟨h1, h2⟩ := Bool.and_eq_true_iff.mp (show (chkE tb e1 c x && chkL tb es c xs) = true from e)
      exact .cons (chkE_ok ht e1 h h1) (chkL_ok ht es h h2)
end
end Ev

set_option Elab.async false
set_option linter.all false
set_option maxRecDepth 100000
set_option maxHeartbeats 4000000
/-! Ev20: own syntax and the program's compared: blocks, defs. -/
namespace Ev
open PySem PySem.Spec PyProof.Rows L2

def unAsg : Stmt → Option (Expr × Expr)
  | .Assign [t] x _ => some (t, x)
  | _ => none
theorem unAsg_ok {st : Stmt} {t x : Expr} (h : unAsg st = some (t, x)) : ∃ p, st = .Assign [t] x p := by
  unfold unAsg at h
  split at h
  · cases h; exact ⟨_, rfl⟩
  · cases h
def unExp : Stmt → Option Expr
  | .Expr x _ => some x
  | _ => none
theorem unExp_ok {st : Stmt} {x : Expr} (h : unExp st = some x) : ∃ p, st = .Expr x p := by
  unfold unExp at h
  split at h
  · cases h; exact ⟨_, rfl⟩
  · cases h
def unIf : Stmt → Option (Expr × List Stmt × List Stmt)
  | .If c a b _ => some (c, a, b)
  | _ => none
theorem unIf_ok {st : Stmt} {c : Expr} {a b : List Stmt} (h : unIf st = some (c, a, b)) : ∃ p, st = .If c a b p := by
  unfold unIf at h
  split at h
  · cases h; exact ⟨_, rfl⟩
  · cases h
def unFor : Stmt → Option (Expr × Expr × List Stmt)
  | .For t i b [] _ => some (t, i, b)
  | _ => none
theorem unFor_ok {st : Stmt} {t i : Expr} {b : List Stmt} (h : unFor st = some (t, i, b)) : ∃ p, st = .For t i b [] p := by
  unfold unFor at h
  split at h
  · cases h; exact ⟨_, rfl⟩
  · cases h
def unWhile : Stmt → Option (Expr × List Stmt)
  | .While c b [] _ => some (c, b)
  | _ => none
theorem unWhile_ok {st : Stmt} {c : Expr} {b : List Stmt} (h : unWhile st = some (c, b)) : ∃ p, st = .While c b [] p := by
  unfold unWhile at h
  split at h
  · cases h; exact ⟨_, rfl⟩
  · cases h
def unRet : Stmt → Option (Option Expr)
  | .Return x _ => some x
  | _ => none
theorem unRet_ok {st : Stmt} {x : Option Expr} (h : unRet st = some x) : ∃ p, st = .Return x p := by
  unfold unRet at h
  split at h
  · cases h; exact ⟨_, rfl⟩
  · cases h
/-- nothing happens -/
def idle : Stmt → Bool
  | .Pass _ => true
  | .Expr (.Constant (.str _) _ _) _ => true
  | _ => false
theorem idle_ok {X : Cx} {st : Stmt} (h : idle st = true) : PS X st tNext := by
  unfold idle at h
  split at h
  · exact ps_pass
  · exact ps_doc
  · cases h
def isBrk : Stmt → Bool
  | .Break _ => true
  | _ => false
theorem isBrk_ok {st : Stmt} (h : isBrk st = true) : ∃ p, st = .Break p := by
  unfold isBrk at h
  split at h
  · exact ⟨_, rfl⟩
  · cases h
def isCont : Stmt → Bool
  | .Continue _ => true
  | _ => false
theorem isCont_ok {st : Stmt} (h : isCont st = true) : ∃ p, st = .Continue p := by
  unfold isCont at h
  split at h
  · exact ⟨_, rfl⟩
  · cases h

/-- name = [..], the store within -/
def swT (c : Cc) (t x : Expr) : Bool := match t, x with
  | .Name y py, .ListComp _ _ scope pos => decide (c.sc.kind = .function) && decide (c.sc.names.lookup y = some .local) && (py.line == pos.line) && !(scope.names.any fun (n, k) => n == y && (k == .local || k == .cell))
  | _, _ => false
theorem swT_ok {c : Cc} {X : Cx} (hs : X.env.scope = c.sc) {t x : Expr} (h : swT c t x = true) : ∃ y py, t = .Name y py ∧ X.env.scope.names.lookup y = some .local ∧ ∀ l, swapsWith x (some (.Name y py)) l X.env = pure true := by
  unfold swT at h
  split at h
  · rename_i y py _ _ scope pos
    simp only [Bool.and_eq_true, decide_eq_true_eq, Bool.not_eq_true'] at h
    obtain ⟨⟨⟨h1, h2⟩, h3⟩, h4⟩ := h
    rw [← hs] at h1 h2
    exact ⟨y, py, rfl, h2, fun l => sw_true h1 h2 h3 h4⟩
  · cases h
/-- name = [..], the store behind it -/
def swF (c : Cc) (t x : Expr) : Bool := match t, x with
  | .Name y py, .ListComp _ _ scope pos => !(decide (c.sc.names.lookup y = some .local) && (py.line == pos.line) && !(scope.names.any fun (n, k) => n == y && (k == .local || k == .cell)))
  | _, _ => false
theorem swF_ok {c : Cc} {X : Cx} (hs : X.env.scope = c.sc) {t x : Expr} (h : swF c t x = true) : ∃ y py, t = .Name y py ∧ ∀ l, swapsWith x (some (.Name y py)) l X.env = pure false := by
  unfold swF at h
  split at h
  · rename_i y py _ _ scope pos
    rw [← hs] at h
    refine ⟨y, py, rfl, fun l => ?_⟩
    have h' : (decide (X.env.scope.names.lookup y = some .local) && (py.line == pos.line) && !(scope.names.any fun (n, k) => n == y && (k == .local || k == .cell))) = false := by
      cases e9 : (decide (X.env.scope.names.lookup y = some .local) && (py.line == pos.line) && !(scope.names.any fun (n, k) => n == y && (k == .local || k == .cell))) with
      | false => rfl
      | true => rw [e9] at h; cases h
    have e : (X.env.kindOf y == some .local) = decide (X.env.scope.names.lookup y = some .local) := by
      show (X.env.scope.names.lookup y == some .local) = _
      by_cases c : X.env.scope.names.lookup y = some .local
      · rw [decide_eq_true c, c]
        rfl
      · rw [decide_eq_false c]
        exact beq_eq_false_iff_ne.mpr c
    unfold swapsWith
    show (pure (X.env.blockKind == .function && X.env.kindOf y == some .local && py.line == pos.line && !(scope.names.any fun (n, k) => n == y && (k == .local || k == .cell))) : Sem Bool) = pure false
    rw [Bool.and_assoc, Bool.and_assoc, e, ← Bool.and_assoc, ← Bool.and_assoc, Bool.and_assoc (X.env.blockKind == .function), Bool.and_assoc (X.env.blockKind == .function), h', Bool.and_false]
  · cases h
def mthName : Mth → Option Str
  | .append => some "append"
  | .insert => some "insert"
  | .reverse => some "reverse"
  | _ => none
def isLc : E → Bool
  | .lc .. => true
  | _ => false
/-- pairs that are stored from the right -/
def parC (c : Cc) (ts : List Tg) (xs ys : List Expr) : Bool := match ts, xs with
  | [.name i, .name j], [x, y] => (match unName x, unName y with
    | some n, some m => decide (c.N[i]? = some n) && decide (c.N[j]? = some m) && i != j && decide (c.sc.names.lookup n = some .local) && decide (c.sc.names.lookup m = some .local) && parOk c.sc [x, y] ys [n, m] && ys.length == 2
    | _, _ => false)
  | [.name i, .name j, .name k], [x, y, z] => (match unName x, unName y, unName z with
    | some n, some m, some o => decide (c.N[i]? = some n) && decide (c.N[j]? = some m) && decide (c.N[k]? = some o) && i != j && i != k && j != k && decide (c.sc.names.lookup n = some .local) && decide (c.sc.names.lookup m = some .local) && decide (c.sc.names.lookup o = some .local)
        && parOk c.sc [x, y, z] ys [n, m, o] && ys.length == 3
    | _, _, _ => false)
  | _, _ => false
def isTupE : E → Option (List E)
  | .tup es => some es
  | _ => none
/-- t = e -/
def asgC (tb : Tb) (c : Cc) (t : Tg) (e : E) (tx x : Expr) : Bool :=
  if isComp x then isLc e && (swT c tx x || swF c tx x) && tgC c t tx && chkE tb e c x && (match t with
    | .name _ => true
    | _ => false)
  else match unTup x with
    | some ys => (match t with
      | .name i => tgC c t tx && chkE tb e c x
      | .tup ts => (match unTup tx, isTupE e with
        | some xs, some es => if sNone c.sc xs ys then tgC c t tx && chkE tb e c x else parC c ts xs ys && chkL tb es c ys
        | _, _ => false))
    | none => tgC c t tx && chkE tb e c x
/-- i = a new list -/
def ownC (tb : Tb) (c : Cc) (i : Nat) (e : E) (tx x : Expr) : Bool := tgC c (.name i) tx && chkE tb e c x && (match e with
  | .lst _ => true
  | .lc .. => swT c tx x
  | _ => false)
mutual
def chkS (tb : Tb) : S → Cc → Stmt → Bool
  | .asg t e, c, st => (match unAsg st with
    | some (tx, x) => asgC tb c t e tx x
    | none => false)
  | .own i e, c, st => (match unAsg st with
    | some (tx, x) => ownC tb c i e tx x
    | none => false)
  | .setI o i e, c, st => (match unAsg st with
    | some (tx, x) => (match unSub tx with
      | some (ox, ix) => chkE tb o c ox && chkE tb i c ix && chkE tb e c x && !isComp x && notSlice ix
      | none => false)
    | none => false)
  | .meth b o as, c, st => (match unExp st with
    | some x => (match unMeth x with
      | some (ox, m, xs) => decide (mthName b = some m) && attrX ox && decide (xs.length < 30) && chkE tb o c ox && chkL tb as c xs
      | none => false)
    | none => false)
  | .expr e, c, st => (match unExp st with
    | some x => !isComp x && chkE tb e c x
    | none => false)
  | .ite e a b, c, st => (match unIf st with
    | some (x, xs, ys) => chkE tb e c x && chkSs tb a c xs && chkSs tb b c ys
    | none => false)
  | .for tg ik its body, c, st => (match unFor st with
    | some (tx, ix, xs) => tgC c tg tx && (match itX c ik tx ix with
      | some ys => chkL tb its c ys
      | none => false) && chkSs tb body c xs
    | none => false)
  | .forM tg e body, c, st => (match unFor st with
    | some (tx, ix, xs) => tgC c tg tx && chkE tb e c ix && chkSs tb body c xs
    | none => false)
  | .whl e body, c, st => (match unWhile st with
    | some (x, xs) => chkE tb e c x && chkSs tb body c xs
    | none => false)
  | .ret e, c, st => (match unRet st with
    | some (some x) => chkE tb e c x
    | _ => false)
  | .retN, _, st => (match unRet st with
    | some none => true
    | _ => false)
  | .pass, _, st => idle st
  | .brk, _, st => isBrk st
  | .cont, _, st => isCont st
  | .nev, _, _ => true
  | .raise _ _, _, _ => false
  | .popA _ _ _, _, _ => false
  | .frz _, _, _ => false
def chkSs (tb : Tb) : List S → Cc → List Stmt → Bool
  | [], _, sts => sts.isEmpty
  | s :: ss, c, sts => (match s with
    | .frz _ => chkSs tb ss c sts
    | _ => (match sts with
      | st :: sts => chkS tb s c st && chkSs tb ss c sts
      | [] => false))
end
end Ev

set_option Elab.async false
set_option linter.all false
set_option maxRecDepth 100000
set_option maxHeartbeats 4000000
/-! Ev21: the comparison is right: blocks. -/
namespace Ev
open PySem PySem.Spec PyProof.Rows L2

/-- a def's context: its frame's errors pass -/
structure CsOk (B : Bs) (k : Nat) (c : Cc) (X : Cx) : Prop where
  cc : CcOk B k c X
  own : PassesOwn (model X.prog X.w) X.A X.env X.xe
section
variable {B : Bs} {cal : Nat → List D → Sto → Res D} {k : Nat} {tb : Tb} {c : Cc} {X : Cx}
theorem chkLc_ok (ht : TbOk B cal k tb) (h : CcOk B k c X) {elt : E} {tg : Tg} {ik : IK} {its ifs : List E} {own : List Nat} {x : Expr} (e0 : chkE tb (.lc elt tg ik its ifs own) c x = true) :
    ∃ ex tx ix cs scope p, x = .ListComp ex [⟨tx, ix, cs, 0⟩] scope p ∧ LcOk B.T cal X elt tg ik its ifs own ex tx ix cs scope := by
  have e : (match unLc x with
    | some (ex, tx, ix, cs, scope) => (match itX c ik tx ix with
      | some xs => chkL tb its c xs && blkC c.N c.sc scope (ownN c own) && tg.inB own && tgC ⟨relS scope c.sc, c.N, some scope⟩ tg tx && decide (cs.length ≤ 1) && chkL tb ifs ⟨relS scope c.sc, c.N, some scope⟩ cs && chkE tb elt ⟨relS scope c.sc, c.N, some scope⟩ ex
      | none => false)
    | none => false) = true := e0
  clear e0
  cases e1 : unLc x with
  | none => rw [e1] at e; cases e
  | some q =>
    obtain ⟨ex, tx, ix, cs, scope⟩ := q
    rw [e1] at e
    obtain ⟨p, rfl⟩ := unLc_ok e1
    have e : (match itX c ik tx ix with
      | some xs => chkL tb its c xs && blkC c.N c.sc scope (ownN c own) && tg.inB own && tgC ⟨relS scope c.sc, c.N, some scope⟩ tg tx && decide (cs.length ≤ 1) && chkL tb ifs ⟨relS scope c.sc, c.N, some scope⟩ cs && chkE tb elt ⟨relS scope c.sc, c.N, some scope⟩ ex
      | none => false) = true := e
    cases e2 : itX c ik tx ix with
    | none => rw [e2] at e; cases e
    | some xs =>
      rw [e2] at e
      simp only [Bool.and_eq_true, decide_eq_true_eq] at e
      obtain ⟨⟨⟨⟨⟨⟨e3, e4⟩, e5⟩, e6⟩, e7⟩, e8⟩, e9⟩ := e
      obtain ⟨i1, i2⟩ := itX_ok ht h e2 (chkL_ok ht its h e3) (md := .b) (.inr rfl)
      refine ⟨ex, tx, ix, cs, scope, p, rfl, i1, ⟨ownN c own, ?_, ownN_snd⟩, Tg.inB_ok e5, i2, fun s H C cl fp => (tgC_ok h.blk e6).1, fun s H C cl fp => ?_, fun s H C cl fp => (chkE_ok ht elt h.blk e9).p⟩
      · have := blkOk_by e4
        rw [← h.N, ← h.sc] at this
        exact this
      · have hs := chkL_ok ht ifs (h.blk (s := s) (H := H) (C := C) (cl := cl) (fp := fp)) e8
        match cs, ifs, hs, e7 with
        | [], [], _, _ => exact tTs_nil
        | [y], [f], .cons h1 .nil, _ => exact tTs_one h1
        | _ :: _ :: _, _, _, e7 => simp at e7
/-- a name as a target -/
theorem tgC_name (h : CcOk B k c X) {i : Nat} {x : Expr} (e : tgC c (.name i) x = true) : ∃ n p, x = .Name n p ∧ X.N[i]? = some n ∧ Loc X.env.scope n ∧ (X.fn n = true ∨ X.env.scope.names.lookup n = some .local) := by
  have e : (match unName x with
    | some n => decide (c.N[i]? = some n) && locB c n
    | none => false) = true := e
  cases e1 : unName x with
  | none => rw [e1] at e; cases e
  | some n =>
    rw [e1] at e
    obtain ⟨p, rfl⟩ := unName_ok e1
    obtain ⟨e2, e3⟩ := Bool.and_eq_true_iff.mp e
    obtain ⟨l1, l2⟩ := locB_ok h e3
    exact ⟨n, p, rfl, by rw [h.N]; exact of_decide_eq_true e2, l1, l2⟩
theorem pl_of (ht : TbOk B cal k tb) (h : CcOk B k c X) {o : E} {x : Expr} (e0 : chkE tb o c x = true) : PE X x (tP X B.T cal o) := by
  cases o with
  | var i =>
    have e : (match unName x with
      | some n => decide (c.N[i]? = some n) && visB c n && nm2 n
      | none => false) = true := e0
    clear e0
    cases e1 : unName x with
    | none => rw [e1] at e; cases e
    | some n =>
      rw [e1] at e
      obtain ⟨p, rfl⟩ := unName_ok e1
      simp only [Bool.and_eq_true, decide_eq_true_eq] at e
      obtain ⟨n1, n2⟩ := nm2_ok e.2
      exact pl_var (by rw [h.N]; exact e.1.1) (visB_ok h e.1.2) n1 n2
  | _ => exact pl_any (chkE_ok ht _ h e0) rfl
theorem parC_ok (ht : TbOk B cal k tb) (h : CcOk B k c X) {ts : List Tg} {xs ys : List Expr} {es : List E} (e : parC c ts xs ys = true) (he : SEs B.T cal X es ys) {p1 p2 p3 : Pos} {k1 k2 : Nat} :
    PS X (.Assign [.Tuple xs k1 p1] (.Tuple ys k2 p2) p3) (tS X B.T cal (.asg (.tup ts) (.tup es))) := by
  unfold parC at e
  split at e
  · rename_i i j x y
    split at e
    · rename_i n m e1 e2
      obtain ⟨q1, rfl⟩ := unName_ok e1
      obtain ⟨q2, rfl⟩ := unName_ok e2
      simp only [Bool.and_eq_true, decide_eq_true_eq, bne_iff_ne, beq_iff_eq] at e
      obtain ⟨⟨⟨⟨⟨⟨f1, f2⟩, f3⟩, f4⟩, f5⟩, f6⟩, f7⟩ := e
      rw [← h.N] at f1 f2
      rw [← h.sc] at f4 f5 f6
      match ys, es, he, f7 with
      | [a, b], [u, v], he, _ => exact st_par2 h.calm h.nd f1 f2 f3 f4 f5 f6 he
    · cases e
  · rename_i i j kk x y z
    split at e
    · rename_i n m o e1 e2 e3
      obtain ⟨q1, rfl⟩ := unName_ok e1
      obtain ⟨q2, rfl⟩ := unName_ok e2
      obtain ⟨q3, rfl⟩ := unName_ok e3
      simp only [Bool.and_eq_true, decide_eq_true_eq, bne_iff_ne, beq_iff_eq] at e
      obtain ⟨⟨⟨⟨⟨⟨⟨⟨⟨⟨f1, f2⟩, f2'⟩, f3⟩, f3'⟩, f3''⟩, f4⟩, f5⟩, f5'⟩, f6⟩, f7⟩ := e
      rw [← h.N] at f1 f2 f2'
      rw [← h.sc] at f4 f5 f5' f6
      match ys, es, he, f7 with
      | [a, b, d], [u, v, w], he, _ => exact st_par3 h.calm h.nd f1 f2 f2' f3 f3' f3'' f4 f5 f5' f6 he
    · cases e
  · cases e
theorem isTupE_ok {e : E} {es : List E} (h : isTupE e = some es) : e = .tup es := by
  unfold isTupE at h
  split at h
  · cases h; rfl
  · cases h
theorem asgC_ok (ht : TbOk B cal k tb) (h : CcOk B k c X) {t : Tg} {e : E} {tx x : Expr} {p : Pos} (q : asgC tb c t e tx x = true) : PS X (.Assign [tx] x p) (tS X B.T cal (.asg t e)) := by
  unfold asgC at q
  have gen : isComp x = false → isTupD x = false → tgC c t tx = true → chkE tb e c x = true → PS X (.Assign [tx] x p) (tS X B.T cal (.asg t e)) := by
    intro h1 h2 h3 h4
    obtain ⟨g1, g2⟩ := tgC_ok h h3
    exact st_asgT (chkE_ok ht e h h4) g1 h1 h2 g2
  by_cases hc : isComp x = true
  · rw [if_pos hc] at q
    simp only [Bool.and_eq_true] at q
    obtain ⟨⟨⟨⟨q1, q2⟩, q3⟩, q4⟩, q5⟩ := q
    cases t with
    | tup _ => cases q5
    | name i =>
      obtain ⟨n, p1, rfl, g1, g2, g3⟩ := tgC_name h q3
      rcases Bool.or_eq_true_iff.mp q2 with q2 | q2
      · obtain ⟨y, py, ey, hy, hsw⟩ := swT_ok h.sc q2
        cases ey
        cases e with
        | lc elt tg ik its ifs own =>
          obtain ⟨ex, tx, ix, cs, scope, p2, rfl, L⟩ := chkLc_ok ht h q4
          exact L.st_set h.calm h.nd g1 hy (hsw _)
        | _ => cases q1
      · obtain ⟨y, py, ey, hsw⟩ := swF_ok h.sc q2
        cases ey
        exact st_setS (chkE_ok ht e h q4) h.nd g1 g2 g3 (hsw _)
  · have hc : isComp x = false := by simpa using hc
    rw [if_neg (by rw [hc]; decide)] at q
    cases e1 : unTup x with
    | none =>
      rw [e1] at q
      obtain ⟨q1, q2⟩ := Bool.and_eq_true_iff.mp q
      refine gen hc ?_ q1 q2
      cases x <;> first | rfl | cases e1
    | some ys =>
      rw [e1] at q
      obtain ⟨k2, p2, rfl⟩ := unTup_ok e1
      cases t with
      | name i =>
        obtain ⟨q1, q2⟩ := Bool.and_eq_true_iff.mp q
        obtain ⟨n, p1, rfl, g1, g2, g3⟩ := tgC_name h q1
        exact st_set (chkE_ok ht e h q2) h.nd g1 g2 g3 hc
      | tup ts =>
        have q : (match unTup tx, isTupE e with
          | some xs, some es => if sNone c.sc xs ys then tgC c (.tup ts) tx && chkE tb e c (.Tuple ys k2 p2) else parC c ts xs ys && chkL tb es c ys
          | _, _ => false) = true := q
        cases e2 : unTup tx with
        | none => rw [e2] at q; cases q
        | some xs =>
          cases e3 : isTupE e with
          | none => rw [e2, e3] at q; cases q
          | some es =>
            rw [e2, e3] at q
            obtain ⟨k3, p3, rfl⟩ := unTup_ok e2
            have q9 : (if sNone c.sc xs ys then tgC c (.tup ts) (.Tuple xs k3 p3) && chkE tb e c (.Tuple ys k2 p2) else parC c ts xs ys && chkL tb es c ys) = true := q
            by_cases cn : sNone c.sc xs ys = true
            · rw [if_pos cn] at q9
              obtain ⟨q1, q2⟩ := Bool.and_eq_true_iff.mp q9
              obtain ⟨g1, g2⟩ := tgC_ok h q1
              rw [← h.sc] at cn
              exact st_asgN (chkE_ok ht e h q2) g1 rfl (sws_none cn) g2
            · rw [if_neg cn] at q9
              have := isTupE_ok e3
              subst this
              obtain ⟨q1, q2⟩ := Bool.and_eq_true_iff.mp q9
              exact parC_ok ht h q1 (chkL_ok ht es h q2)
theorem ownC_ok (ht : TbOk B cal k tb) (h : CcOk B k c X) {i : Nat} {e : E} {tx x : Expr} {p : Pos} (q : ownC tb c i e tx x = true) : PS X (.Assign [tx] x p) (tS X B.T cal (.own i e)) := by
  unfold ownC at q
  simp only [Bool.and_eq_true] at q
  obtain ⟨⟨q1, q2⟩, q3⟩ := q
  obtain ⟨n, p1, rfl, g1, g2, g3⟩ := tgC_name h q1
  cases e with
  | lst es =>
    have e0 : (match unLst x with
      | some xs => chkL tb es c xs
      | none => false) = true := q2
    cases e1 : unLst x with
    | none => rw [e1] at e0; cases e0
    | some xs =>
      rw [e1] at e0
      obtain ⟨p2, rfl⟩ := unLst_ok e1
      exact st_own (tF_lst h.hK (chkL_ok ht es h e0)) h.nd g1 g2 g3 rfl
  | lc elt tg ik its ifs own =>
    obtain ⟨y, py, ey, hy, hsw⟩ := swT_ok h.sc q3
    cases ey
    obtain ⟨ex, tx, ix, cs, scope, p2, rfl, L⟩ := chkLc_ok ht h q2
    exact L.st_own h.calm h.nd g1 hy (hsw _)
  | _ => cases q3
end
mutual
theorem chkS_ok {B : Bs} {cal : Nat → List D → Sto → Res D} {k : Nat} {tb : Tb} (ht : TbOk B cal k tb) : ∀ (s : S) {c : Cc} {st : Stmt} {X : Cx}, CsOk B k c X → chkS tb s c st = true → PS X st (tS X B.T cal s)
  | .asg t e, c, st, X, h, q0 => by
    have q : (match unAsg st with
      | some (tx, x) => asgC tb c t e tx x
      | none => false) = true := q0
    clear q0
    cases e1 : unAsg st with
    | none => rw [e1] at q; cases q
    | some z =>
      obtain ⟨tx, x⟩ := z
      rw [e1] at q
      obtain ⟨p, rfl⟩ := unAsg_ok e1
      exact asgC_ok ht h.cc q
  | .own i e, c, st, X, h, q0 => by
    have q : (match unAsg st with
      | some (tx, x) => ownC tb c i e tx x
      | none => false) = true := q0
    clear q0
    cases e1 : unAsg st with
    | none => rw [e1] at q; cases q
    | some z =>
      obtain ⟨tx, x⟩ := z
      rw [e1] at q
      obtain ⟨p, rfl⟩ := unAsg_ok e1
      exact ownC_ok ht h.cc q
  | .setI o i e, c, st, X, h, q0 => by
    have q : (match unAsg st with
      | some (tx, x) => (match unSub tx with
        | some (ox, ix) => chkE tb o c ox && chkE tb i c ix && chkE tb e c x && !isComp x && notSlice ix
        | none => false)
      | none => false) = true := q0
    clear q0
    cases e1 : unAsg st with
    | none => rw [e1] at q; cases q
    | some z =>
      obtain ⟨tx, x⟩ := z
      rw [e1] at q
      obtain ⟨p, rfl⟩ := unAsg_ok e1
      have q8 : (match unSub tx with
        | some (ox, ix) => chkE tb o c ox && chkE tb i c ix && chkE tb e c x && !isComp x && notSlice ix
        | none => false) = true := q
      clear q
      cases e2 : unSub tx with
      | none => rw [e2] at q8; cases q8
      | some z =>
        obtain ⟨ox, ix⟩ := z
        rw [e2] at q8
        obtain ⟨p2, rfl⟩ := unSub_ok e2
        simp only [Bool.and_eq_true, Bool.not_eq_true'] at q8
        obtain ⟨⟨⟨⟨q1, q2⟩, q3⟩, q4⟩, q5⟩ := q8
        exact st_setI (pl_of ht h.cc q1) (chkE_ok ht i h.cc q2) (chkE_ok ht e h.cc q3) q4 q5
  | .meth b o as, c, st, X, h, q0 => by
    have q : (match unExp st with
      | some x => (match unMeth x with
        | some (ox, m, xs) => decide (mthName b = some m) && attrX ox && decide (xs.length < 30) && chkE tb o c ox && chkL tb as c xs
        | none => false)
      | none => false) = true := q0
    clear q0
    cases e1 : unExp st with
    | none => rw [e1] at q; cases q
    | some x =>
      rw [e1] at q
      obtain ⟨p, rfl⟩ := unExp_ok e1
      have q8 : (match unMeth x with
        | some (ox, m, xs) => decide (mthName b = some m) && attrX ox && decide (xs.length < 30) && chkE tb o c ox && chkL tb as c xs
        | none => false) = true := q
      clear q
      cases e2 : unMeth x with
      | none => rw [e2] at q8; cases q8
      | some z =>
        obtain ⟨ox, m, xs⟩ := z
        rw [e2] at q8
        obtain ⟨p2, p3, rfl, hl⟩ := unMeth_ok e2
        simp only [Bool.and_eq_true, decide_eq_true_eq] at q8
        obtain ⟨⟨⟨⟨q1, q2⟩, q3⟩, q4⟩, q5⟩ := q8
        have ho := pl_of ht h.cc q4
        have ha := chkL_ok ht as h.cc q5
        cases b with
        | append => cases q1; exact st_append ho ha (attrX_ok q2 _ _) hl q3
        | insert => cases q1; exact st_insert ho ha (attrX_ok q2 _ _) hl q3
        | reverse => cases q1; exact st_reverse ho ha (attrX_ok q2 _ _) hl q3
        | extend => cases q1
        | pop => cases q1
  | .expr e, c, st, X, h, q0 => by
    have q : (match unExp st with
      | some x => !isComp x && chkE tb e c x
      | none => false) = true := q0
    clear q0
    cases e1 : unExp st with
    | none => rw [e1] at q; cases q
    | some x =>
      rw [e1] at q
      obtain ⟨p, rfl⟩ := unExp_ok e1
      simp only [Bool.and_eq_true, Bool.not_eq_true'] at q
      exact st_expr (chkE_ok ht e h.cc q.2) q.1
  | .ite e a b, c, st, X, h, q0 => by
    have q : (match unIf st with
      | some (x, xs, ys) => chkE tb e c x && chkSs tb a c xs && chkSs tb b c ys
      | none => false) = true := q0
    clear q0
    cases e1 : unIf st with
    | none => rw [e1] at q; cases q
    | some z =>
      obtain ⟨x, xs, ys⟩ := z
      rw [e1] at q
      obtain ⟨p, rfl⟩ := unIf_ok e1
      simp only [Bool.and_eq_true] at q
      exact st_if (chkE_ok ht e h.cc q.1.1) (chkSs_ok ht a h q.1.2) (chkSs_ok ht b h q.2)
  | .for tg ik its body, c, st, X, h, q0 => by
    have q : (match unFor st with
      | some (tx, ix, xs) => tgC c tg tx && (match itX c ik tx ix with
        | some ys => chkL tb its c ys
        | none => false) && chkSs tb body c xs
      | none => false) = true := q0
    clear q0
    cases e1 : unFor st with
    | none => rw [e1] at q; cases q
    | some z =>
      obtain ⟨tx, ix, xs⟩ := z
      rw [e1] at q
      obtain ⟨p, rfl⟩ := unFor_ok e1
      simp only [Bool.and_eq_true] at q
      obtain ⟨⟨q1, q2⟩, q3⟩ := q
      cases e2 : itX c ik tx ix with
      | none => rw [e2] at q2; cases q2
      | some ys =>
        rw [e2] at q2
        obtain ⟨i1, i2⟩ := itX_ok ht h.cc e2 (chkL_ok ht its h.cc q2) (md := .p) (.inl rfl)
        exact st_for h.own h.cc.calm i1 (tgC_ok h.cc q1).1 (chkSs_ok ht body h q3) i2
  | .forM tg e body, c, st, X, h, q0 => by
    have q : (match unFor st with
      | some (tx, ix, xs) => tgC c tg tx && chkE tb e c ix && chkSs tb body c xs
      | none => false) = true := q0
    clear q0
    cases e1 : unFor st with
    | none => rw [e1] at q; cases q
    | some z =>
      obtain ⟨tx, ix, xs⟩ := z
      rw [e1] at q
      obtain ⟨p, rfl⟩ := unFor_ok e1
      simp only [Bool.and_eq_true] at q
      exact st_forM h.cc.hK h.own h.cc.calm (chkE_ok ht e h.cc q.1.2) (tgC_ok h.cc q.1.1).1 (chkSs_ok ht body h q.2)
  | .whl e body, c, st, X, h, q0 => by
    have q : (match unWhile st with
      | some (x, xs) => chkE tb e c x && chkSs tb body c xs
      | none => false) = true := q0
    clear q0
    cases e1 : unWhile st with
    | none => rw [e1] at q; cases q
    | some z =>
      obtain ⟨x, xs⟩ := z
      rw [e1] at q
      obtain ⟨p, rfl⟩ := unWhile_ok e1
      simp only [Bool.and_eq_true] at q
      exact st_while h.own (chkE_ok ht e h.cc q.1) (chkSs_ok ht body h q.2)
  | .ret e, c, st, X, h, q0 => by
    have q : (match unRet st with
      | some (some x) => chkE tb e c x
      | _ => false) = true := q0
    clear q0
    cases e1 : unRet st with
    | none => rw [e1] at q; cases q
    | some z =>
      cases z with
      | none => rw [e1] at q; cases q
      | some x =>
        rw [e1] at q
        obtain ⟨p, rfl⟩ := unRet_ok e1
        exact st_ret (chkE_ok ht e h.cc q)
  | .retN, c, st, X, h, q0 => by
    have q : (match unRet st with
      | some none => true
      | _ => false) = true := q0
    clear q0
    cases e1 : unRet st with
    | none => rw [e1] at q; cases q
    | some z =>
      cases z with
      | some x => rw [e1] at q; cases q
      | none =>
        obtain ⟨p, rfl⟩ := unRet_ok e1
        exact st_retN
  | .pass, c, st, X, h, q0 => PS.imp (idle_ok q0) fun D σ H ⟨Av, r, m, l, S, w⟩ => Wps.nx (show Wps X B.T Av (wd Av r l σ H) (.ok (.nx l) m) D from w) S (Ext.refl _)
  | .brk, c, st, X, h, q0 => by
    obtain ⟨p, rfl⟩ := isBrk_ok q0
    exact st_brk
  | .cont, c, st, X, h, q0 => by
    obtain ⟨p, rfl⟩ := isCont_ok q0
    exact st_cont
  | .nev, c, st, X, h, q0 => st_nev
  | .raise _ _, c, st, X, h, q0 => by cases q0
  | .popA _ _ _, c, st, X, h, q0 => by cases q0
  | .frz _, c, st, X, h, q0 => by cases q0
theorem chkSs_ok {B : Bs} {cal : Nat → List D → Sto → Res D} {k : Nat} {tb : Tb} (ht : TbOk B cal k tb) : ∀ (ss : List S) {c : Cc} {sts : List Stmt} {X : Cx}, CsOk B k c X → chkSs tb ss c sts = true → PSs X sts (tSs X B.T cal ss)
  | [], c, sts, X, h, q => by
    cases sts with
    | nil => exact ss_nil
    | cons _ _ => cases q
  | s :: ss, c, sts, X, h, q0 => by
    have q : (match (generalizing := false) s with
      | .frz _ => chkSs tb ss c sts
      | _ => (match (generalizing := false) sts with
        | st :: sts => chkS tb s c st && chkSs tb ss c sts
        | [] => false)) = true := q0
    clear q0
    have gen : (match (generalizing := false) sts with
        | st :: sts => chkS tb s c st && chkSs tb ss c sts
        | [] => false) = true → PSs X sts (tSs X B.T cal (s :: ss)) := by
      intro q
      cases sts with
      | nil => cases q
      | cons st sts =>
        obtain ⟨q1, q2⟩ := Bool.and_eq_true_iff.mp (show (chkS tb s c st && chkSs tb ss c sts) = true from q)
        exact ss_cons (chkS_ok ht s h q1) (chkSs_ok ht ss h q2)
    cases s with
    | frz i => exact ss_frz (chkSs_ok ht ss h q)
    | _ => exact gen q
end
end Ev

set_option Elab.async false
set_option linter.all false
set_option maxRecDepth 100000
set_option maxHeartbeats 4000000
/-! Ev22: defs: what the evaluator says of each, to every depth. -/
namespace Ev
open PySem PySem.Spec PyProof.Rows L2

theorem sr_start {T : Tx} {Av : Addr → Prop} {r : List Addr} {m : Sto} {H : Hp} {ds : List D} {vs : List V} {N : List Str} {fi : FnI} (S : SR T Av r m [] [] H) (h : Reps T (wd Av r [] [] H) ds vs) (hn : fi.ns = N.length) :
    SR T Av r m (lo0 fi ds) (start N vs) H ∧ Ext (wd Av r [] [] H) (wd Av r (lo0 fi ds) (start N vs) H) := by
  have hl := h.length
  have nown : ∀ (i : Nat) xs, (lo0 fi ds)[i]? ≠ some (.own xs) := by
    intro i xs e
    unfold lo0 at e
    rcases List.getElem?_eq_some_iff.mp e with ⟨hi, e⟩
    rw [List.getElem_append] at e
    split at e
    · rw [List.getElem_map] at e
      cases e
    · rw [List.getElem_replicate] at e
      cases e
  have ho : ∀ a, OwnAt (lo0 fi ds) (start N vs) a → OwnAt [] [] a := fun a ⟨i, xs, e, _⟩ => absurd e (nown i xs)
  refine ⟨S.reslot ?_ ho (fun i s o e1 e2 => ?_) (fun i j xs ys a e => absurd e (nown i xs)), Ext.slots ho⟩
  · unfold lo0 L2.start
    rw [List.length_append, List.length_append, List.length_map, List.length_map, List.length_replicate, List.length_replicate, hl, hn]
  · unfold lo0 at e1
    unfold L2.start at e2
    by_cases c : i < ds.length
    · rw [List.getElem?_append_left (by simpa using c), List.getElem?_map] at e1
      rw [List.getElem?_append_left (by rw [List.length_map, ← hl]; exact c), List.getElem?_map] at e2
      obtain ⟨d, ed, rfl⟩ := Option.map_eq_some_iff.mp e1
      obtain ⟨v, ev, rfl⟩ := Option.map_eq_some_iff.mp e2
      obtain ⟨u, eu, hu⟩ := h.get ed
      rw [ev] at eu
      cases eu
      exact .inr (.inr ⟨d, v, rfl, rfl, hu⟩)
    · rw [List.getElem?_append_right (by simpa using c)] at e1
      rcases List.getElem?_eq_some_iff.mp e1 with ⟨hi, e⟩
      rw [List.getElem_replicate] at e
      exact .inr (.inl e.symm)
section
variable {B : Bs} {P : Prog} {tb : Tb} {k f : Nat}
/-- a def of the program, and ours of it -/
structure FnFact (B : Bs) (P : Prog) (tb : Tb) (x : Str) (f : Nat) : Prop where
  ex : ∃ (x' qual : Str) (params : Arguments) (body : List Stmt) (scope : Scope) (dvs : List V) (kws : List (Str × V)) (a : Addr) (fd : FuncData) (N ps : List Str) (fi : FnI) (df : List (Option D)),
    B.mg x = some (.ref a) ∧ PySem.W.keepIn B.T.K (.ref a) = true ∧ FunD B.T.K x' qual params body scope dvs kws a fd ∧ FnScope N ps scope ∧ Binds B.T.K fd ps [] ∧ P.fns[f]? = some fi ∧ fi.np = ps.length ∧ fi.ns = N.length ∧
    chkSs tb fi.body ⟨scope, N, none⟩ body = true ∧ B.T.G.dfl[f]? = some df ∧ df.length = ps.length ∧ tb.ar[f]? = some df.length
theorem fn_step (hP : P.G = B.T.G) {x' qual : Str} {params : Arguments} {body : List Stmt} {scope : Scope} {dvs : List V} {kws : List (Str × V)} {a : Addr} {fd : FuncData} {N ps : List Str} {fi : FnI} (ht : TbOk B (fnSem P k) (k + 2) tb) (F : FunD B.T.K x' qual params body scope dvs kws a fd) (Sc : FnScope N ps scope)
    (h1 : P.fns[f]? = some fi) (h2 : fi.np = ps.length) (h3 : fi.ns = N.length) (hc : chkSs tb fi.body ⟨scope, N, none⟩ body = true) : FnOk B.P B.w B.T.K B.mg B.base CXn (k + 3) a fd ps (spE B.T (fnSem P (k + 1)) f) := by
  have un : ∀ ds m, fnSem P (k + 1) f ds m = if ds.length = fi.np then (evSs P.G (fnSem P k) fi.body (lo0 fi ds) m).bind endOf else .bad := by
    intro ds m
    show (match P.fns[f]? with
      | some fi => if ds.length = fi.np then (evSs P.G (fnSem P k) fi.body (lo0 fi ds) m).bind endOf else .bad
      | none => .bad) = _
    rw [h1]
  refine F.ok Sc (fun vs H Q E h => ?_) fun cdv A outer s H vs Q E hr h => ?_
  · obtain ⟨Av, r, m, ds, S, hd, w⟩ := h
    rw [un] at w
    by_cases c : ds.length = fi.np
    · rw [← hd.length, c, h2]
    · rw [if_neg c] at w
      exact w.elim
  · obtain ⟨Av, r, m, ds, S, hd, w⟩ := h
    rw [un] at w
    by_cases c : ds.length = fi.np
    case neg =>
      rw [if_neg c] at w
      exact w.elim
    rw [if_pos c] at w
    obtain ⟨S1, x1⟩ := sr_start S hd h3
    have cc : CsOk B (k + 2) ⟨scope, N, none⟩ (cxOf CXn B.P B.w B.T.K B.mg B.base N qual scope a cdv A outer s H E) := by
      refine ⟨⟨⟨rfl, rfl, rfl, rfl, rfl⟩, rfl, rfl, Sc.nd, rfl, fun _ => rfl, hr, by omega⟩, passes_of (X := cxOf CXn B.P B.w B.T.K B.mg B.base N qual scope a cdv A outer s H E) (K := fun e s'' => CXn outer H s E e s'') (E₁ := fun e' s'' => CXn outer H s E e' s'') rfl⟩
    refine ⟨tSs _ B.T (fnSem P k) fi.body, chkSs_ok ht fi.body cc hc, Av, r, m, lo0 fi ds, S1, ?_⟩
    rw [hP] at w
    cases e : evSs B.T.G (fnSem P k) fi.body (lo0 fi ds) m with
    | bad => rw [e] at w; exact w.elim
    | exc _ _ => rw [e] at w; exact w.elim
    | ok o m' =>
      rw [e] at w
      cases o with
      | bk l' => exact w.elim
      | ct l' => exact w.elim
      | ex z l' => exact w.elim
      | nx l' =>
        intro r' σ' H' S' x'
        obtain ⟨S2, x2, _⟩ := S'.drop
        exact w r' H' S2 (x1.trans (x'.trans x2)) .non rfl
      | rt d =>
        intro r' H' v S' x' hv
        exact w r' H' S' (x1.trans x') v hv
theorem fn_zero {x' qual : Str} {params : Arguments} {body : List Stmt} {scope : Scope} {dvs : List V} {kws : List (Str × V)} {a : Addr} {fd : FuncData} {N ps : List Str} (F : FunD B.T.K x' qual params body scope dvs kws a fd) (Sc : FnScope N ps scope) : FnOk B.P B.w B.T.K B.mg B.base CXn 2 a fd ps (spE B.T (fnSem P 0) f) := by
  refine F.ok Sc (fun vs H Q E h => ?_) fun cdv A outer s H vs Q E hr h => ?_
  · obtain ⟨Av, r, m, ds, S, hd, w⟩ := h
    exact w.elim
  · obtain ⟨Av, r, m, ds, S, hd, w⟩ := h
    exact w.elim
/-- what of the tables does not hang on the depth -/
structure TbFix (B : Bs) (tb : Tb) : Prop where
  cs : ∀ x j, tb.cs.lookup x = some j → ∃ u v d, B.mg x = some u ∧ RelV v u ∧ B.T.G.cs[j]? = some d ∧ ∀ W, Rep B.T W d v
  rc : ∀ x c n ks kp, (x, c, n, ks, kp) ∈ tb.rc → MkAt B x c n ks kp
  bi : ∀ x ∈ isNames, B.mg x = none
  fld : ∀ c ns f, B.T.G.cls[c]? = some ns → f ∈ ns → Cls B.T.K (B.T.ca c) ∧ NoAttr B.T.K (B.T.ca c) f
theorem all_ok (hP : P.G = B.T.G) (h0 : TbFix B tb) (hf : ∀ x f, tb.fn.lookup x = some f → FnFact B P tb x f) : ∀ k, TbOk B (fnSem P k) (k + 2) tb
  | 0 => ⟨h0.cs, fun x f e => by
      obtain ⟨x', qual, params, body, scope, dvs, kws, a, fd, N, ps, fi, df, f1, f2, f3, f4, f5, f6, f7, f8, f9, g1, g2, g3⟩ := (hf x f e).ex
      exact ⟨ps.length, df, ⟨a, fd, ps, f1, f2, fn_zero f3 f4, f5, rfl⟩, g1, g3⟩, h0.rc, h0.bi, h0.fld⟩
  | k + 1 => ⟨h0.cs, fun x f e => by
      obtain ⟨x', qual, params, body, scope, dvs, kws, a, fd, N, ps, fi, df, f1, f2, f3, f4, f5, f6, f7, f8, f9, g1, g2, g3⟩ := (hf x f e).ex
      exact ⟨ps.length, df, ⟨a, fd, ps, f1, f2, fn_step hP (all_ok hP h0 hf k) f3 f4 f6 f7 f8 f9, f5, rfl⟩, g1, g3⟩, h0.rc, h0.bi, h0.fld⟩
end
end Ev

set_option Elab.async false
set_option linter.all false
set_option maxRecDepth 100000
set_option maxHeartbeats 400000
/-! Ev23: the head's facts: a hook of our own; defs, constants, from the facts. -/
namespace Ev
open PySem PySem.Spec PyProof.Rows L2

/-! ### constants -/
mutual
/-- a value that stands in K as this data -/
def litB (K : PySem.W.Frag) : D → Value → Bool
  | .non, u => (match u with
    | .none => true
    | _ => false)
  | .bl b, u => (match u with
    | .bool c => b == c
    | _ => false)
  | .int i, u => (match u with
    | .int j _ => decide (i = j)
    | _ => false)
  | .str x, u => (match u with
    | .str y _ => decide (x = y)
    | _ => false)
  | .tup xs, u => (match u with
    | .ref a => (match K.lookup a with
      | some ⟨.type c, _, .seq its _, _⟩ => decide (c = "tuple") && decide (its.size ≤ sizeLine) && litBs K xs its.toList
      | _ => false)
    | _ => false)
  | _, _ => false
def litBs (K : PySem.W.Frag) : List D → List Value → Bool
  | [], us => us.isEmpty
  | d :: ds, us => (match us with
    | u :: us => litB K d u && litBs K ds us
    | [] => false)
end
def valOf : Value → V
  | .none => .non
  | .bool b => .bl b
  | .int i _ => .int i
  | .str x _ => .str x
  | .ref a => .ref a
  | _ => .non
mutual
theorem litB_ok {T : Tx} : ∀ (d : D) (u : Value), litB T.K d u = true → RelV (valOf u) u ∧ ∀ W, Rep T W d (valOf u)
  | .non, u, h => by
    have h : (match (generalizing := false) u with
      | .none => true
      | _ => false) = true := h
    cases u <;> first | exact ⟨rfl, fun _ => rfl⟩ | cases h
  | .bl b, u, h => by
    have h : (match (generalizing := false) u with
      | .bool c => b == c
      | _ => false) = true := h
    cases u <;> first | (cases eq_of_beq h; exact ⟨rfl, fun _ => rfl⟩) | cases h
  | .int i, u, h => by
    have h : (match (generalizing := false) u with
      | .int j _ => decide (i = j)
      | _ => false) = true := h
    cases u <;> first | (cases of_decide_eq_true h; exact ⟨⟨_, rfl⟩, fun _ => rfl⟩) | cases h
  | .str x, u, h => by
    have h : (match (generalizing := false) u with
      | .str y _ => decide (x = y)
      | _ => false) = true := h
    cases u <;> first | (cases of_decide_eq_true h; exact ⟨⟨_, rfl⟩, fun _ => rfl⟩) | cases h
  | .tup xs, u, h => by
    have h : (match (generalizing := false) u with
      | .ref a => (match (generalizing := false) T.K.lookup a with
        | some ⟨.type c, _, .seq its _, _⟩ => decide (c = "tuple") && decide (its.size ≤ sizeLine) && litBs T.K xs its.toList
        | _ => false)
      | _ => false) = true := h
    cases u with
    | ref a =>
      have h : (match (generalizing := false) T.K.lookup a with
        | some ⟨.type c, _, .seq its _, _⟩ => decide (c = "tuple") && decide (its.size ≤ sizeLine) && litBs T.K xs its.toList
        | _ => false) = true := h
      split at h
      · rename_i c od its n osl e
        simp only [Bool.and_eq_true, decide_eq_true_eq] at h
        obtain ⟨⟨h1, h2⟩, h3⟩ := h
        obtain ⟨vs, g1, g2⟩ := litBs_ok xs its.toList h3
        exact ⟨rfl, fun W => ⟨a, vs, rfl, .inr ⟨_, its, n, e, congrArg Value.type h1, rfl, h2, g1⟩, g2 W⟩⟩
      · cases h
    | _ => cases h
  | .lst _, u, h => by cases u <;> cases h
  | .loc _, u, h => by cases u <;> cases h
  | .obj _ _, u, h => by cases u <;> cases h
  | .rng _ _, u, h => by cases u <;> cases h
theorem litBs_ok {T : Tx} : ∀ (ds : List D) (us : List Value), litBs T.K ds us = true → ∃ vs, Vals vs us ∧ ∀ W, Reps T W ds vs
  | [], us, h => by
    cases us with
    | nil => exact ⟨[], .nil, fun _ => rfl⟩
    | cons _ _ => cases h
  | d :: ds, us, h => by
    cases us with
    | nil => cases h
    | cons u us =>
      obtain ⟨h1, h2⟩ := Bool.and_eq_true_iff.mp (show (litB T.K d u && litBs T.K ds us) = true from h)
      obtain ⟨g1, g2⟩ := litB_ok d u h1
      obtain ⟨vs, g3, g4⟩ := litBs_ok ds us h2
      exact ⟨valOf u :: vs, .cons g1 g3, fun W => Reps.cons (g2 W) (g4 W)⟩
end
/-- the module's name stands for this constant -/
def conB (K : PySem.W.Frag) (p : Str × D) : Bool := match PySem.W.nsIn K mainGlobals p.1 with
  | some (some u) => litB K p.2 u
  | _ => false
theorem conB_ok {T : Tx} {h : Heap} {mg : Str → Option Value} (X : T.K.In h) (G : h.Ns mainGlobals mg) {x : Str} {d : D} (c : conB T.K (x, d) = true) : ∃ u v, mg x = some u ∧ RelV v u ∧ ∀ W, Rep T W d v := by
  unfold conB at c
  split at c
  · rename_i u e
    obtain ⟨h1, h2⟩ := litB_ok d u c
    exact ⟨u, valOf u, PySem.W.mg_of X G e, h1, h2⟩
  · cases c

/-! ### the hook -/
/-- no list -/
def noL (o : Obj) : Bool := match o.cls with
  | .type c => !(decide (c = "list"))
  | _ => true
def frN (g : Addr → Option Obj) (as : List Addr) : PySem.W.Frag := (He.frG g as).filter fun p => noL p.2
theorem mem_lookup {K : PySem.W.Frag} {a : Addr} {o : Obj} (h : K.lookup a = some o) : (a, o) ∈ K := by
  have h : List.lookup a K = some o := h
  induction K with
  | nil => cases h
  | cons p K ih =>
    rw [List.lookup_cons] at h
    cases e : a == p.1 with
    | true =>
      rw [e] at h
      cases h
      rw [eq_of_beq e]
      exact List.mem_cons_self ..
    | false =>
      rw [e] at h
      exact List.mem_cons_of_mem _ (ih h h)
theorem lookup_filter {g : Addr → Option Obj} {as : List Addr} {a : Addr} {o : Obj} (h : (frN g as).lookup a = some o) : g a = some o ∧ noL o = true := by
  have h1 := mem_lookup h
  obtain ⟨h2, h3⟩ := List.mem_filter.mp h1
  refine ⟨?_, h3⟩
  unfold He.frG at h2
  obtain ⟨b, _, hb⟩ := List.mem_filterMap.mp h2
  obtain ⟨o', e1, e2⟩ := Option.map_eq_some_iff.mp hb
  cases e2
  exact e1
theorem frN_in {as : List Addr} {h : Heap} : (frN h.get? as).In h := fun _ _ e => (lookup_filter e).1
def NoLists (K : PySem.W.Frag) : Prop := ∀ a o, K.lookup a = some o → noL o = true
abbrev AlN : Type := Bool × He.AlD
def obsN (cs : List (Str × D)) (fa : List He.Fa) (fn : List He.DefD) (K : PySem.W.Frag) : AlN := (cs.all (conB K), He.obsD fa fn K)
def valN (fn : List He.DefD) : AlN := (true, He.valD fn)
structure SaysN (cs : List (Str × D)) (fa : List He.Fa) (fn : List He.DefD) (K : PySem.W.Frag) : Prop where
  cs : ∀ p ∈ cs, conB K p = true
  d : He.SaysD fa fn K
  nl : NoLists K
def obsNG (n : Nat) (cs : List (Str × D)) (fa : List He.Fa) (fn : List He.DefD) (g : Addr → Option Obj) : AlN := obsN cs fa fn (frN g (He.asD g n))
def hookN (n : Nat) (cs : List (Str × D)) (fa : List He.Fa) (fn : List He.DefD) : PySem.W.Hook where
  α := AlN
  obs := fun s => obsNG n cs fa fn s.heap.get?
  val := fun _ => valN fn
  says := fun _ h => ∃ K : PySem.W.Frag, K.In h ∧ SaysN cs fa fn K
  of := fun _ _ e => ⟨_, frN_in, List.all_eq_true.mp (congrArg (fun z : AlN => z.1) e), congrArg (fun z : AlN => z.2) e, fun _ _ h => (lookup_filter h).2⟩
  keeps := fun _ _ _ ⟨K, hK, c⟩ k => ⟨K, PySem.W.Frag.In.keeps hK k, c⟩
theorem obsNG_eq {n : Nat} {cs : List (Str × D)} {fa : List He.Fa} {fn : List He.DefD} {g : Addr → Option Obj} {s : Shared} (h : ∀ a, g a = s.heap.get? a) : obsNG n cs fa fn g = (hookN n cs fa fn).obs s := by
  have e : g = s.heap.get? := funext h
  rw [e] <;> rfl

/-! ### defs -/
def plainP (p : Arguments) : Option (List Arg) := match p with
  | ⟨[], as, none, [], [], none, []⟩ => some as
  | _ => none
theorem plainP_ok {p : Arguments} {as : List Arg} (h : plainP p = some as) : p = ⟨[], as, none, [], [], none, []⟩ := by
  unfold plainP at h
  split at h
  · cases h; rfl
  · cases h
def scopeC (N ps : List Str) (sc : Scope) : Bool :=
  decide (sc.kind = .function) && !sc.isCoroutine && !sc.isGenerator && decide N.Nodup && decide (N.take ps.length = ps) && (ps.all fun x => match sc.names.lookup x with
    | some .local => true
    | some .cell => true
    | _ => false) && (sc.names.all fun y => decide (y.2 ≠ .free))
theorem scopeC_ok {N ps : List Str} {sc : Scope} (h : scopeC N ps sc = true) : FnScope N ps sc := by
  unfold scopeC at h
  simp only [Bool.and_eq_true, decide_eq_true_eq, Bool.not_eq_true', List.all_eq_true] at h
  obtain ⟨⟨⟨⟨⟨⟨h1, h2⟩, h3⟩, h4⟩, h5⟩, h6⟩, h7⟩ := h
  refine ⟨h1, h2, h3, h4, h5, fun x hx => ?_, h7⟩
  have := h6 x hx
  split at this
  · exact .inl (by assumption)
  · exact .inr (by assumption)
  · cases this
/-- these parameters, all given by their places -/
def BindP (params : Arguments) (ps : List Str) : Prop := ∀ (x qual : Str) (body : List Stmt) (scope : Scope) (kV doc pm : Value) (an : Option Addr) (cdv ct : Value) (us : List Value), us.length = ps.length → bindArgs (PySem.W.fnOf x qual params body scope .none kV doc pm an cdv ct) ⟨us, []⟩ = pure (ps.zip us)
theorem BindP.ok {K : PySem.W.Frag} {x qual : Str} {params : Arguments} {ps : List Str} {body : List Stmt} {scope : Scope} {kws : List (Str × V)} {f : Addr} {fd : FuncData} (b : BindP params ps) (F : FunD K x qual params body scope [] kws f fd) : Binds K fd ps [] :=
  F.bindsN fun kV doc pm an cdv ct us hu => b x qual body scope kV doc pm an cdv ct us hu
/-- a name of the text and the def behind it -/
structure Ent where
  x : Str
  f : Nat
  d : He.DefD
  N : List Str
  ps : List Str
def dflC (o : Option (List (Option D))) (n : Nat) : Bool := match o with
  | some l => decide (l.length = n)
  | none => false
def entC (tb : Tb) (P : Prog) (e : Ent) : Bool := match P.fns[e.f]? with
  | some fi => decide (e.d.at_ = (e.x, none)) && scopeC e.N e.ps e.d.scope && e.d.dfl.isEmpty && e.d.kwd.isEmpty && decide (fi.np = e.ps.length) && decide (fi.ns = e.N.length) && dflC P.G.dfl[e.f]? e.ps.length && decide (tb.ar[e.f]? = some e.ps.length) && chkSs tb fi.body ⟨e.d.scope, e.N, none⟩ e.d.body
  | none => false
theorem entC_ok {B : Bs} {P : Prog} {tb : Tb} {h : Heap} {cs : List (Str × D)} {fa : List He.Fa} {fn : List He.DefD} (hP : P.G = B.T.G) (X : B.T.K.In h) (G : h.Ns mainGlobals B.mg) (c : He.SaysD fa fn B.T.K) {e : Ent} (i j : Nat) (hi : fn[i]? = some e.d) (hj : fa[j]? = some (.glo e.x)) (hb : BindP e.d.params e.ps) (h : entC tb P e = true) :
    FnFact B P tb e.x e.f := by
  unfold entC at h
  cases e1 : P.fns[e.f]? with
  | none => rw [e1] at h; cases h
  | some fi =>
    rw [e1] at h
    simp only [Bool.and_eq_true, decide_eq_true_eq, List.isEmpty_iff] at h
    obtain ⟨⟨⟨⟨⟨⟨⟨⟨h1, h2⟩, h3⟩, h4⟩, h5⟩, h6⟩, h7⟩, h8⟩, h9⟩ := h
    obtain ⟨fd, F⟩ := c.def_ i hi
    have ed : He.DefD.dvs B.T.K e.d = [] := by unfold He.DefD.dvs; rw [h3]; rfl
    have ek : He.DefD.kws B.T.K e.d = [] := by unfold He.DefD.kws; rw [h4]; rfl
    have ea : He.fAd B.T.K e.d.at_ = He.ga B.T.K e.x := by rw [h1]; rfl
    rw [ed, ek, ea] at F
    unfold dflC at h7
    cases e2 : P.G.dfl[e.f]? with
    | none => rw [e2] at h7; cases h7
    | some df =>
      rw [e2] at h7
      have h7 : df.length = e.ps.length := of_decide_eq_true h7
      exact ⟨e.d.name, e.d.qual, e.d.params, e.d.body, e.d.scope, [], [], He.ga B.T.K e.x, fd, e.N, e.ps, fi, df, He.glo_ok X G (c.fact j hj), F.kp, F, scopeC_ok h2, hb.ok F, e1, h5, h6, h9, by rw [← hP]; exact e2, h7, by rw [h7]; exact h8⟩
end Ev

set_option Elab.async false
set_option linter.all false
set_option maxRecDepth 100000
set_option maxHeartbeats 400000
/-! Ev24: the law's end. -/
namespace Ev
open PySem PySem.Spec PyProof.Rows L2

section
variable {fa : List He.Fa} {fn : List He.DefD} {K : PySem.W.Frag}
theorem factM (c : He.SaysD fa fn K) {f : He.Fa} (h : f ∈ fa) : f.ok K = true := by
  obtain ⟨i, hi⟩ := List.getElem?_of_mem h
  exact c.fact i hi
theorem defM (c : He.SaysD fa fn K) {d : He.DefD} (h : d ∈ fn) : ∃ fd, FunD K d.name d.qual d.params d.body d.scope (d.dvs K) (d.kws K) (He.fAd K d.at_) fd := by
  obtain ⟨i, hi⟩ := List.getElem?_of_mem h
  exact c.def_ i hi
end
theorem entC_un {P : Prog} {tb : Tb} {e : Ent} (h : entC tb P e = true) : ∃ fi df, P.fns[e.f]? = some fi ∧ e.d.at_ = (e.x, none) ∧ FnScope e.N e.ps e.d.scope ∧ e.d.dfl = [] ∧ e.d.kwd = [] ∧ fi.np = e.ps.length ∧ fi.ns = e.N.length ∧ P.G.dfl[e.f]? = some df ∧ df.length = e.ps.length ∧ tb.ar[e.f]? = some e.ps.length ∧
    chkSs tb fi.body ⟨e.d.scope, e.N, none⟩ e.d.body = true := by
  unfold entC at h
  cases e1 : P.fns[e.f]? with
  | none => rw [e1] at h; cases h
  | some fi =>
    rw [e1] at h
    simp only [Bool.and_eq_true, decide_eq_true_eq, List.isEmpty_iff] at h
    obtain ⟨⟨⟨⟨⟨⟨⟨⟨h1, h2⟩, h3⟩, h4⟩, h5⟩, h6⟩, h7⟩, h8⟩, h9⟩ := h
    unfold dflC at h7
    cases e2 : P.G.dfl[e.f]? with
    | none => rw [e2] at h7; cases h7
    | some df =>
      rw [e2] at h7
      exact ⟨fi, df, rfl, h1, scopeC_ok h2, h3, h4, h5, h6, rfl, of_decide_eq_true h7, h8, h9⟩
/-- the law's def, and what its evaluation says -/
theorem law_F {l : PySem.W.OpenLaw} {n k : Nat} {tb : Tb} {pp : Ev.Prog} {cs : List (Str × D)} {fa : List He.Fa} {fn : List He.DefD} {ca : PySem.W.Frag → Nat → Addr} {ents : List Ent} {le : Ent} {x : Str} (hps : le.ps = [x]) (hle : le ∈ ents)
    (hfix : ∀ (w : World) (K : PySem.W.Frag) (mg : Str → Option Value) (base : Heap), K.In base → base.Ns mainGlobals mg → SaysN cs fa fn K → TbFix ⟨l.prog, w, mg, base, ⟨K, ca K, pp.G⟩⟩ tb)
    (htb : tb.fn = ents.map fun e => (e.x, e.f)) (hents : ∀ e ∈ ents, BindP e.d.params e.ps ∧ entC tb pp e = true) (hfn : ∀ e ∈ ents, e.d ∈ fn) (hfa : ∀ e ∈ ents, He.Fa.glo e.x ∈ fa)
    (hsem : ∀ ns : List Int, ns.length ≤ n → ∃ m', fnSem pp (k + 1) le.f [.lst (ns.map .int)] [] = .ok (.bl true) m')
    (w : World) (mg : Str → Option Value) (fl : Addr) (h : Heap) (Y : ∃ K : PySem.W.Frag, K.In h ∧ SaysN cs fa fn K) (G : h.Ns mainGlobals mg) (hmg : mg le.x = some (.ref fl)) :
    ∃ (K : PySem.W.Frag) (fd : FuncData) (sp : Sp), K.In h ∧ (∀ (s : Shared) (u : Value), BindsTo s fd ⟨[u], []⟩ [(x, u)]) ∧
      (∀ (H : Hp) (a : Addr) (ns : List Int), ns.length ≤ n → Only H → SqL K H a (ns.map V.int) → sp [.ref a] H (fun v _ => v = .bl true) fun _ _ _ => False) ∧
      ∀ base : Heap, K.In base → base.Ns mainGlobals mg → FnOk l.prog w K mg base CXn (k + 3) fl fd [x] sp := by
  obtain ⟨K, KX, c⟩ := Y
  obtain ⟨hb, hc⟩ := hents le hle
  obtain ⟨fd, F⟩ := defM c.d (hfn le hle)
  obtain ⟨fi, df, e1, h1, h2, h3, h4, h5, h6, h7, h8, h9, hck⟩ := entC_un hc
  have ed : He.DefD.dvs K le.d = [] := by unfold He.DefD.dvs; rw [h3]; rfl
  have ek : He.DefD.kws K le.d = [] := by unfold He.DefD.kws; rw [h4]; rfl
  have ea : He.fAd K le.d.at_ = He.ga K le.x := by rw [h1]; rfl
  rw [ed, ek, ea] at F
  have hga : fl = He.ga K le.x := by
    have := (He.glo_ok KX G (factM c.d (hfa le hle))).symm.trans hmg
    cases this
    rfl
  subst hga
  refine ⟨K, fd, spE ⟨K, ca K, pp.G⟩ (fnSem pp (k + 1)) le.f, KX, fun s u => ?_, fun H a ns hl hO hS => ?_, fun base KB GB => ?_⟩
  · have := F.bindsA (ps := [x]) (fun kV doc pm an cdv ct us hu => by
      have hb' := hb le.d.name le.d.qual le.d.body le.d.scope kV doc pm an cdv ct us (by rw [hps]; exact hu)
      rw [hps] at hb'
      exact hb') s [u] rfl
    exact this
  · have hRd : Rd H a (.lst (ns.map V.int)) := by
      rcases hS with hS | ⟨o, its, m, q1, q2, _⟩
      · exact hS
      · exfalso
        have := c.nl a o q1
        unfold noL at this
        rw [q2] at this
        cases this
    have S : SR ⟨K, ca K, pp.G⟩ (fun _ => False) [] [] [] [] H := ⟨rfl, fun a h => h.elim, rfl, List.nodup_nil, (fun a h => nomatch h), (fun n xs a e => by simp at e), (fun i s o e => by simp at e), (fun i j xs ys a e => by simp at e)⟩
    obtain ⟨m', em⟩ := hsem ns hl
    refine ⟨fun _ => False, [], [], [.lst (ns.map .int)], S, Reps.cons ⟨a, _, rfl, hRd, fun z => z.elim (fun z => by cases z) no_own, fun z => z.elim id fun z => z.elim (fun z => by cases z) no_own, Reps.of_ints⟩ Reps.nil, ?_⟩
    rw [em]
    exact fun r' H' S' x' v hv => hv
  · have hfx := hfix w K mg base KB GB c
    have hall : ∀ x f, tb.fn.lookup x = some f → FnFact ⟨l.prog, w, mg, base, ⟨K, ca K, pp.G⟩⟩ pp tb x f := by
      intro y f hy
      have hm := PySem.mem_of_lookup hy
      rw [htb] at hm
      obtain ⟨e, he, ee⟩ := List.mem_map.mp hm
      cases ee
      obtain ⟨i, hi⟩ := List.getElem?_of_mem (hfn e he)
      obtain ⟨j, hj⟩ := List.getElem?_of_mem (hfa e he)
      exact entC_ok (cs := cs) rfl KB GB c.d i j hi hj (hents e he).1 (hents e he).2
    have hok := all_ok (P := pp) (B := ⟨l.prog, w, mg, base, ⟨K, ca K, pp.G⟩⟩) rfl hfx hall k
    have hs := fn_step (f := le.f) (ps := [x]) rfl hok F (by rw [hps] at h2; exact h2) e1 (by rw [h5, hps]) h6 hck
    exact hs

/-! what stands in the tables -/
theorem cs_ok {B : Bs} {csN : List (Str × D)} {tb : Tb} {h : Heap} (X : B.T.K.In h) (G : h.Ns mainGlobals B.mg) (h1 : tb.cs = csN.zipIdx.map fun p => (p.1.1, p.2)) (h2 : B.T.G.cs = csN.map (·.2)) (hc : ∀ p ∈ csN, conB B.T.K p = true) :
    ∀ x j, tb.cs.lookup x = some j → ∃ u v d, B.mg x = some u ∧ RelV v u ∧ B.T.G.cs[j]? = some d ∧ ∀ W, Rep B.T W d v := by
  intro x j e
  have hm := PySem.mem_of_lookup e
  rw [h1] at hm
  obtain ⟨p, hp, ep⟩ := List.mem_map.mp hm
  obtain ⟨⟨y, d⟩, i⟩ := p
  cases ep
  have hp := List.mem_zipIdx_iff_getElem?.mp hp
  obtain ⟨u, v, g1, g2, g3⟩ := conB_ok X G (hc (y, d) (List.mem_of_getElem? hp))
  refine ⟨u, v, d, g1, g2, ?_, g3⟩
  rw [h2, List.getElem?_map, show csN[i]? = some (y, d) from hp]
  rfl
/-! the head's part of the heap, written out -/
def hs (w : World) (x : Str) : Int := reduceHash (w.params.strHash x.cps)
def de (w : World) (x : Str) (t : Tok) (v : Value) : DictEntry := ⟨hs w x, .str x t, v⟩
theorem in_of {as : List Addr} {K : PySem.W.Frag} {g : Addr → Option Obj} (h1 : List.map (fun p : Addr × Obj => p.1) K = as) (h2 : as.map g = List.map (fun p : Addr × Obj => some p.2) K) : ∀ a o, K.lookup a = some o → g a = some o := by
  intro a o e
  have hm := mem_lookup e
  have key : ∀ (K : List (Addr × Obj)), (List.map (fun p : Addr × Obj => p.1) K).map g = List.map (fun p : Addr × Obj => some p.2) K → ∀ p ∈ K, g p.1 = some p.2 := by
    intro K
    induction K with
    | nil => intro _ p hp; cases hp
    | cons q K ih =>
      intro h p hp
      rw [List.map_cons, List.map_cons, List.map_cons] at h
      obtain ⟨g1, g2⟩ := List.cons.inj h
      rcases List.mem_cons.mp hp with rfl | hp
      · exact g1
      · exact ih g2 p hp
  rw [← h1] at h2
  exact key K h2 (a, o) hm
def hookL (as : List Addr) (KL : World → PySem.W.Frag) (h1 : ∀ w, List.map (fun p : Addr × Obj => p.1) (KL w) = as) : PySem.W.Hook where
  α := List (Option Obj)
  obs := fun s => as.map s.heap.get?
  val := fun w => List.map (fun p : Addr × Obj => some p.2) (KL w)
  says := fun w h => (KL w).In h
  of := fun w s e => in_of (h1 w) e
  keeps := fun _ _ _ hK k => PySem.W.Frag.In.keeps hK k
end Ev

set_option Elab.async false
set_option linter.all false
set_option maxRecDepth 100000
set_option maxHeartbeats 400000
/-! Ev25: the evaluator worked out by hand: loops and comprehensions over lists. -/
namespace Ev
open PySem

section
variable {G : Gs} {cal : Nat → List D → Sto → Res D}
/-- one turn of a comprehension -/
def turn (G : Gs) (cal : Nat → List D → Sto → Res D) (elt : E) (tg : Tg) (ifs : List E) (own : List Nat) (l : Lo) (d : D) (m : Sto) : Res (Option D) := match Tg.set tg d (wipeL l own) with
  | some l' => (evTs G cal true ifs l' m).bind fun k m => match k with
    | .bl true => (evM G cal elt .p l' m).bind fun y m => .ok (some y) m
    | .bl false => .ok none m
    | _ => .bad
  | none => .bad
theorem fold_turn {elt : E} {tg : Tg} {ifs : List E} {own : List Nat} {l : Lo} {m : Sto} {g : D → Option D} : ∀ {ds acc : List D}, (∀ d ∈ ds, turn G cal elt tg ifs own l d m = .ok (g d) m) →
    itFold (fun d acc m => match Tg.set tg d (wipeL l own) with
      | some l' => (evTs G cal true ifs l' m).bind fun k m => match k with
        | .bl true => (evM G cal elt .p l' m).bind fun y m => .ok (acc ++ [y]) m
        | .bl false => .ok acc m
        | _ => .bad
      | none => .bad) ds acc m = .ok (acc ++ ds.filterMap g) m
  | [], acc, _ => by
    show Res.ok acc m = _
    rw [List.filterMap_nil, List.append_nil]
  | d :: ds, acc, h => by
    have h1 := h d (List.mem_cons_self ..)
    have ih : ∀ acc, _ := fun acc => fold_turn (elt := elt) (tg := tg) (ifs := ifs) (own := own) (l := l) (m := m) (g := g) (ds := ds) (acc := acc) fun d' hd => h d' (List.mem_cons_of_mem _ hd)
    have step : (match Tg.set tg d (wipeL l own) with
      | some l' => (evTs G cal true ifs l' m).bind fun k m => match k with
        | .bl true => (evM G cal elt .p l' m).bind fun y m => Res.ok (acc ++ [y]) m
        | .bl false => .ok acc m
        | _ => .bad
      | none => .bad) = .ok (acc ++ (g d).toList) m := by
      unfold turn at h1
      cases e1 : Tg.set tg d (wipeL l own) with
      | none => rw [e1] at h1; cases h1
      | some l' =>
        rw [e1] at h1
        obtain ⟨k, m1, e2, e3⟩ := Res.bind_ok h1
        show (evTs G cal true ifs l' m).bind _ = _
        rw [e2]
        cases k with
        | bl k =>
          cases k with
          | true =>
            obtain ⟨y, m2, e4, e5⟩ := Res.bind_ok (show ((evM G cal elt .p l' m1).bind fun y m => Res.ok (some y) m) = Res.ok (g d) m from e3)
            show (evM G cal elt .p l' m1).bind _ = _
            rw [e4]
            have e6 := Res.ok.inj e5
            rw [← e6.1, e6.2]
            rfl
          | false =>
            have e5 : Res.ok none m1 = Res.ok (g d) m := e3
            have e6 := Res.ok.inj e5
            rw [← e6.1, e6.2]
            show Res.ok acc m = Res.ok (acc ++ []) m
            rw [List.append_nil]
        | _ => cases e3
    show ((match Tg.set tg d (wipeL l own) with
      | some l' => (evTs G cal true ifs l' m).bind fun k m => match k with
        | .bl true => (evM G cal elt .p l' m).bind fun y m => Res.ok (acc ++ [y]) m
        | .bl false => .ok acc m
        | _ => .bad
      | none => .bad).bind fun a' m' => itFold _ ds a' m') = _
    rw [step]
    refine (ih _).trans ?_
    rw [List.append_assoc]
    congr 2
    cases e : g d with
    | none => rw [List.filterMap_cons, e]; rfl
    | some y => rw [List.filterMap_cons, e]; rfl
end
end Ev

set_option Elab.async false
set_option linter.all false
set_option maxRecDepth 100000
set_option maxHeartbeats 4000000
/-! Base: own syntax of the program's defs; the numbers of defs, constants, strings, classes, alike for every law. Printed by gen2.py. -/
namespace Ev
open PySem
def ks0 : List Str := [Str.ofString "sc", Str.ofString "tso", Str.ofString "sets", Str.ofString "line_words", Str.ofString "shared", Str.ofString "modified", Str.ofString "requests", Str.ofString "ways", Str.ofString "get modified", Str.ofString "get shared", Str.ofString "give up", Str.ofString "returned", Str.ofString "recall", Str.ofString "invalidate", Str.ofString "invalidated", Str.ofString "grant", Str.ofString "received", Str.ofString "eq", Str.ofString "ne", Str.ofString "lt", Str.ofString "ge", Str.ofString "ltu", Str.ofString "add", Str.ofString "sub", Str.ofString "mul", Str.ofString "and", Str.ofString "or", Str.ofString "xor", Str.ofString "slt", Str.ofString "load", Str.ofString "store", Str.ofString "branch", Str.ofString "addi", Str.ofString "jump", Str.ofString "reorder_buffer", Str.ofString "fence", Str.ofString "full", Str.ofString "stores", Str.ofString "halt", Str.ofString "order"]
def ks1 : List Str := [Str.ofString "wmm", Str.ofString "store_buffer", Str.ofString "fetch add", Str.ofString "load linked", Str.ofString "store conditional", Str.ofString "exclusive_state", Str.ofString "exclusive", Str.ofString "confirm", Str.ofString "append", Str.ofString "deliver", Str.ofString "request", Str.ofString "fetch", Str.ofString "execute", Str.ofString "resolve", Str.ofString "commit", Str.ofString "drain", Str.ofString "evict", Str.ofString "sign", Str.ofString "name", Str.ofString "number", Str.ofString ";", Str.ofString " ", Str.ofString "column", Str.ofString "end", Str.ofString "", Str.ofString "index", Str.ofString "register", Str.ofString "word", Str.ofString "target", Str.ofString "get", Str.ofString "[", Str.ofString "]", Str.ofString ":", Str.ofString "not", Str.ofString "(", Str.ofString ")", Str.ofString "=", Str.ofString "equals", Str.ofString "observe", Str.ofString "split"]
def ks2 : List Str := [Str.ofString "\n", Str.ofString "memory", Str.ofString "start", Str.ofString ":r", Str.ofString " = ", Str.ofString "not ", Str.ofString "r", Str.ofString "join", Str.ofString "slot", Str.ofString "atomic", Str.ofString "loads", Str.ofString "value", Str.ofString "atomicity", Str.ofString "cores", Str.ofString "run", Str.ofString "unfinished", Str.ofString "events", Str.ofString "perform", Str.ofString "advance", Str.ofString "actions", Str.ofString "effect", Str.ofString "pop", Str.ofString "step", Str.ofString "extend", Str.ofString "reverse", Str.ofString "setdefault", Str.ofString "exists", Str.ofString "never", Str.ofString "none", Str.ofString "cycle", Str.ofString "sltu", Str.ofString "swap", Str.ofString "outside", Str.ofString "abcdefghijklmnopqrstuvwxyz", Str.ofString "0123456789", Str.ofString "abcdefghijklmnopqrstuvwxyz0123456789-", Str.ofString ":[]=()", Str.ofString "r0", Str.ofString "r1", Str.ofString "r2"]
def ks3 : List Str := [Str.ofString "r3", Str.ofString "r4", Str.ofString "r5", Str.ofString "r6", Str.ofString "r7", Str.ofString "geu", Str.ofString "always", Str.ofString "fetch-add", Str.ofString "load-linked", Str.ofString "store-conditional", Str.ofString "relation", Str.ofString "self", Str.ofString "__init__", Str.ofString "the execution is not valid", Str.ofString "violation", Str.ofString "too many situations", Str.ofString "limit", Str.ofString "too many slots", Str.ofString "many", Str.ofString "an action is not possible", Str.ofString "place", Str.ofString "the text does not denote a test", Str.ofString "line", Str.ofString "program", Str.ofString "config", Str.ofString "machine", Str.ofString "action", Str.ofString "core", Str.ofString "most", Str.ofString "rounds", Str.ofString "the machine is not finished", Str.ofString "runs", Str.ofString "choices", Str.ofString "emit", Str.ofString "settle", Str.ofString "told_value", Str.ofString "fetch_to", Str.ofString "prepare", Str.ofString "is_free", Str.ofString "acquire"]
def ks4 : List Str := [Str.ofString "perform_store", Str.ofString "perform_load", Str.ofString "perform_atomic", Str.ofString "pso", Str.ofString "time", Str.ofString "finished", Str.ofString "apply", Str.ofString "insert", Str.ofString "serve", Str.ofString "execution", Str.ofString "outcome", Str.ofString "run_to_end", Str.ofString "address", Str.ofString "head", Str.ofString "replace", Str.ofString "-", Str.ofString ";A# :[x!", Str.ofString " ;(=)", Str.ofString "0", Str.ofString "1", Str.ofString "2", Str.ofString "3", Str.ofString "4", Str.ofString "5", Str.ofString "6", Str.ofString "7", Str.ofString "zz", Str.ofString "r8", Str.ofString "65536", Str.ofString "00", Str.ofString "07", Str.ofString "100000", Str.ofString "z", Str.ofString "25", Str.ofString "024", Str.ofString "memorys", Str.ofString "wrong", Str.ofString "@", Str.ofString "ABCDEFGHIJKLMNOPQRSTUVWXYZ!\"#$&'*+,./<>?@\\^_`{|}~", Str.ofString "remove"]
def ksL : List Str := ks0 ++ ks1 ++ ks2 ++ ks3 ++ ks4
def K (i : Nat) : Str := ksL.getD i (Str.ofString "?")
/-- waiting -/
def s_0 : List S := [.ret (.bcall .len [(.lc (.var 1) (.name 1) .seq [(.var 0)] [(.cmp .NotEq (.var 1) (.glb 0))] [1])])]
def fi0 : FnI := ⟨1, 2, s_0⟩
/-- newest_word -/
def s_1 : List S := [.for (.name 2) .rev [(.var 0)] [.ite (.bool true [(.cmp .NotEq (.var 2) (.glb 0)), (.cmp .Eq (.idx (.var 2) (.cst (.int 1))) (.var 1))]) [.ret (.idx (.var 2) (.cst (.int 2)))] []], .ret (.cst (.non))]
def fi1 : FnI := ⟨2, 3, s_1⟩
/-- with_fence -/
def s_2 : List S := [.ite (.bool false [(.cmp .Eq (.call 0 [(.var 0)] [] []) (.cst (.int 0))), (.cmp .Eq (.idx (.var 0) (.neg (.cst (.int 1)))) (.glb 0))]) [.ret (.var 0)] [], .ret (.bin .Add (.var 0) (.tup [(.glb 0)]))]
def fi2 : FnI := ⟨1, 1, s_2⟩
/-- may_leave -/
def s_3 : List S := [.ite (.bool false [(.cmp .GtE (.var 2) (.bcall .len [(.var 1)])), (.cmp .Eq (.idx (.var 1) (.var 2)) (.glb 0))]) [.ret (.cst (.bl false))] [], .ite (.bool false [(.cmp .Eq (.var 0) (.cst (.str (K 0)))), (.cmp .Eq (.var 0) (.cst (.str (K 1))))]) [.ret (.cmp .Eq (.var 2) (.cst (.int 0)))] [], .for (.name 3) .seq [(.slc (.var 1) [] [(.var 2)])] [.ite (.bool false [(.cmp .Eq (.var 3) (.glb 0)), (.cmp .Eq (.idx (.var 3) (.cst (.int 1))) (.idx (.idx (.var 1) (.var 2)) (.cst (.int 1))))]) [.ret (.cst (.bl false))] []], .ret (.cst (.bl true))]
def fi3 : FnI := ⟨3, 4, s_3⟩
/-- without -/
def s_4 : List S := [.asg (.name 2) (.bin .Add (.slc (.var 0) [] [(.var 1)]) (.slc (.var 0) [(.bin .Add (.var 1) (.cst (.int 1)))] [])), .for (.name 3) .range [(.bcall .len [(.var 2)])] [.ite (.cmp .NotEq (.idx (.var 2) (.var 3)) (.glb 0)) [.ret (.slc (.var 2) [(.var 3)] [])] []], .ret (.tup [])]
def fi4 : FnI := ⟨2, 4, s_4⟩
/-- entry_of -/
def s_5 : List S := [.for (.name 2) .seq [(.var 0)] [.ite (.cmp .Eq (.idx (.var 2) (.cst (.int 0))) (.var 1)) [.ret (.var 2)] []], .ret (.cst (.non))]
def fi5 : FnI := ⟨2, 3, s_5⟩
/-- without_line -/
def s_6 : List S := [.ret (.bcall .tuple [(.lc (.var 2) (.name 2) .seq [(.var 0)] [(.cmp .NotEq (.idx (.var 2) (.cst (.int 0))) (.var 1))] [2])])]
def fi6 : FnI := ⟨2, 3, s_6⟩
/-- with_entry -/
def s_7 : List S := [.ret (.bcall .tuple [(.lc (.ite (.cmp .Eq (.idx (.var 2) (.cst (.int 0))) (.idx (.var 1) (.cst (.int 0)))) (.var 1) (.var 2)) (.name 2) .seq [(.var 0)] [] [2])])]
def fi7 : FnI := ⟨2, 3, s_7⟩
/-- occupied_ways -/
def s_8 : List S := [.asg (.name 3) (.bin .Mod (.var 2) (.fld (.var 0) (K 2))), .asg (.name 4) (.lc (.idx (.var 5) (.cst (.int 0))) (.name 5) .seq [(.idx (.var 1) (.cst (.int 0)))] [(.cmp .Eq (.bin .Mod (.idx (.var 5) (.cst (.int 0))) (.fld (.var 0) (K 2))) (.var 3))] [5]), .asg (.name 6) (.lc (.idx (.var 5) (.cst (.int 0))) (.name 5) .seq [(.idx (.var 1) (.cst (.int 1)))] [(.bool true [(.cmp .Eq (.bin .Mod (.idx (.var 5) (.cst (.int 0))) (.fld (.var 0) (K 2))) (.var 3)), (.cmp .NotIn (.idx (.var 5) (.cst (.int 0))) (.var 4))])] [5]), .ret (.bin .Add (.bcall .len [(.var 4)]) (.bcall .len [(.var 6)]))]
def fi8 : FnI := ⟨3, 7, s_8⟩
/-- read_word -/
def s_9 : List S := [.asg (.name 3) (.call 5 [(.idx (.var 1) (.cst (.int 0))), (.bin .FloorDiv (.var 2) (.fld (.var 0) (K 3)))] [] []), .ite (.cmp .Is (.var 3) (.cst (.non))) [.ret (.cst (.non))] [], .ret (.idx (.idx (.var 3) (.cst (.int 2))) (.bin .Mod (.var 2) (.fld (.var 0) (K 3))))]
def fi9 : FnI := ⟨3, 4, s_9⟩
/-- can_write -/
def s_10 : List S := [.asg (.name 3) (.call 5 [(.idx (.var 1) (.cst (.int 0))), (.bin .FloorDiv (.var 2) (.fld (.var 0) (K 3)))] [] []), .ret (.bool true [(.cmp .IsNot (.var 3) (.cst (.non))), (.cmp .NotEq (.idx (.var 3) (.cst (.int 1))) (.cst (.str (K 4))))])]
def fi10 : FnI := ⟨3, 4, s_10⟩
/-- write_word -/
def s_11 : List S := [.ite (.nt (.call 10 [(.var 0), (.var 1), (.var 2)] [] [])) [.ret (.cst (.non))] [], .asg (.name 4) (.bin .FloorDiv (.var 2) (.fld (.var 0) (K 3))), .asg (.name 5) (.bin .Mod (.var 2) (.fld (.var 0) (K 3))), .asg (.name 6) (.idx (.call 5 [(.idx (.var 1) (.cst (.int 0))), (.var 4)] [] []) (.cst (.int 2))), .asg (.name 7) (.bin .Add (.bin .Add (.slc (.var 6) [] [(.var 5)]) (.tup [(.var 3)])) (.slc (.var 6) [(.bin .Add (.var 5) (.cst (.int 1)))] [])), .ret (.tup [(.call 7 [(.idx (.var 1) (.cst (.int 0))), (.tup [(.var 4), (.cst (.str (K 5))), (.var 7)])] [] []), (.idx (.var 1) (.cst (.int 1))), (.idx (.var 1) (.cst (.int 2)))])]
def fi11 : FnI := ⟨4, 8, s_11⟩
/-- request_line -/
def s_12 : List S := [.asg (.tup [.name 5, .name 6, .name 7]) (.var 1), .ite (.bool false [(.cmp .IsNot (.call 5 [(.var 6), (.var 3)] [] []) (.cst (.non))), (.cmp .IsNot (.call 5 [(.var 7), (.var 3)] [] []) (.cst (.non)))]) [.ret (.cst (.non))] [], .ite (.cmp .GtE (.bcall .len [(.var 6)]) (.fld (.var 0) (K 6))) [.ret (.cst (.non))] [], .asg (.name 8) (.call 5 [(.var 5), (.var 3)] [] []), .ite (.bool true [(.cmp .Is (.var 8) (.cst (.non))), (.cmp .GtE (.call 8 [(.var 0), (.var 1), (.var 3)] [] []) (.fld (.var 0) (K 7)))]) [.ret (.cst (.non))] [], .ite (.bool true [(.cmp .IsNot (.var 8) (.cst (.non))), (.nt (.bool true [(.var 4), (.cmp .Eq (.idx (.var 8) (.cst (.int 1))) (.cst (.str (K 4))))]))]) [.ret (.cst (.non))] [], .asg (.name 9) (.ite (.var 4) (.cst (.str (K 8))) (.cst (.str (K 9)))), .ret (.tup [(.tup [(.var 5), (.bin .Add (.var 6) (.tup [(.tup [(.var 3), (.var 4)])])), (.var 7)]), (.tup [(.tup [(.var 9), (.var 2), (.var 3)])])])]
def fi12 : FnI := ⟨5, 10, s_12⟩
/-- give_up_line -/
def s_13 : List S := [.asg (.tup [.name 3, .name 4, .name 5]) (.var 0), .asg (.name 6) (.call 5 [(.var 3), (.var 2)] [] []), .ite (.bool false [(.cmp .Is (.var 6) (.cst (.non))), (.cmp .IsNot (.call 5 [(.var 4), (.var 2)] [] []) (.cst (.non)))]) [.ret (.cst (.non))] [], .asg (.name 7) (.call 6 [(.var 3), (.var 2)] [] []), .ite (.cmp .Eq (.idx (.var 6) (.cst (.int 1))) (.cst (.str (K 4)))) [.ret (.tup [(.tup [(.var 7), (.var 4), (.var 5)]), (.tup [])])] [], .asg (.name 8) (.cmp .Eq (.idx (.var 6) (.cst (.int 1))) (.cst (.str (K 5)))), .asg (.name 9) (.bin .Add (.var 5) (.tup [(.tup [(.var 2), (.idx (.var 6) (.cst (.int 2))), (.var 8)])])), .ret (.tup [(.tup [(.var 7), (.var 4), (.var 9)]), (.tup [(.tup [(.cst (.str (K 10))), (.var 1), (.var 2), (.idx (.var 6) (.cst (.int 2))), (.var 8)])])])]
def fi13 : FnI := ⟨3, 10, s_13⟩
/-- after_recall -/
def s_14 : List S := [.asg (.tup [.name 2, .name 3, .name 4]) (.var 0), .asg (.tup [.name 5, .name 6, .name 7]) (.tup [(.idx (.var 1) (.cst (.int 1))), (.idx (.var 1) (.cst (.int 2))), (.idx (.var 1) (.cst (.int 3)))]), .asg (.name 8) (.call 5 [(.var 2), (.var 6)] [] []), .ite (.cmp .Is (.var 8) (.cst (.non))) [.asg (.name 9) (.call 5 [(.var 4), (.var 6)] [] []), .asg (.name 10) (.call 7 [(.var 4), (.tup [(.var 6), (.cst (.non)), (.idx (.var 9) (.cst (.int 2)))])] [] []), .ret (.tup [(.tup [(.var 2), (.var 3), (.var 10)]), (.tup [(.tup [(.cst (.str (K 11))), (.var 5), (.var 6), (.idx (.var 9) (.cst (.int 1))), (.idx (.var 9) (.cst (.int 2)))])])])] [], .asg (.name 11) (.call 6 [(.var 2), (.var 6)] [] []), .ite (.var 7) [.asg (.name 11) (.call 7 [(.var 2), (.tup [(.var 6), (.cst (.str (K 4))), (.idx (.var 8) (.cst (.int 2)))])] [] [])] [], .ret (.tup [(.tup [(.var 11), (.var 3), (.var 4)]), (.tup [(.tup [(.cst (.str (K 11))), (.var 5), (.var 6), (.idx (.var 8) (.cst (.int 2))), (.cmp .Eq (.idx (.var 8) (.cst (.int 1))) (.cst (.str (K 5))))])])])]
def fi14 : FnI := ⟨2, 12, s_14⟩
/-- cache_receives -/
def s_15 : List S := [.asg (.tup [.name 2, .name 3, .name 4]) (.var 0), .asg (.tup [.name 5, .name 6, .name 7]) (.tup [(.idx (.var 1) (.cst (.int 0))), (.idx (.var 1) (.cst (.int 1))), (.idx (.var 1) (.cst (.int 2)))]), .ite (.cmp .Eq (.var 5) (.cst (.str (K 12)))) [.ret (.call 14 [(.var 0), (.var 1)] [] [])] [], .ite (.cmp .Eq (.var 5) (.cst (.str (K 13)))) [.ret (.tup [(.tup [(.call 6 [(.var 2), (.var 7)] [] []), (.var 3), (.var 4)]), (.tup [(.tup [(.cst (.str (K 14))), (.var 6), (.var 7)])])])] [], .ite (.cmp .Eq (.var 5) (.cst (.str (K 15)))) [.asg (.name 8) (.bin .Add (.call 6 [(.var 2), (.var 7)] [] []) (.tup [(.tup [(.var 7), (.idx (.var 1) (.cst (.int 3))), (.idx (.var 1) (.cst (.int 4)))])])), .ret (.tup [(.tup [(.var 8), (.call 6 [(.var 3), (.var 7)] [] []), (.var 4)]), (.tup [(.tup [(.cst (.str (K 16))), (.var 6), (.var 7)])])])] [], .ret (.tup [(.tup [(.var 2), (.var 3), (.call 6 [(.var 4), (.var 7)] [] [])]), (.tup [])])]
def fi15 : FnI := ⟨2, 9, s_15⟩
/-- signed -/
def s_16 : List S := [.ite (.cmp .Lt (.var 0) (.glb 3)) [.ret (.var 0)] [], .ret (.bin .Sub (.var 0) (.glb 2))]
def fi16 : FnI := ⟨1, 1, s_16⟩
/-- compare -/
def s_17 : List S := [.ite (.cmp .Eq (.var 0) (.cst (.str (K 17)))) [.ret (.cmp .Eq (.var 1) (.var 2))] [], .ite (.cmp .Eq (.var 0) (.cst (.str (K 18)))) [.ret (.cmp .NotEq (.var 1) (.var 2))] [], .ite (.cmp .Eq (.var 0) (.cst (.str (K 19)))) [.ret (.cmp .Lt (.call 16 [(.var 1)] [] []) (.call 16 [(.var 2)] [] []))] [], .ite (.cmp .Eq (.var 0) (.cst (.str (K 20)))) [.ret (.cmp .GtE (.call 16 [(.var 1)] [] []) (.call 16 [(.var 2)] [] []))] [], .ite (.cmp .Eq (.var 0) (.cst (.str (K 21)))) [.ret (.cmp .Lt (.var 1) (.var 2))] [], .ret (.cmp .GtE (.var 1) (.var 2))]
def fi17 : FnI := ⟨3, 3, s_17⟩
/-- operate -/
def s_18 : List S := [.ite (.cmp .Eq (.var 0) (.cst (.str (K 22)))) [.ret (.bin .Mod (.bin .Add (.var 1) (.var 2)) (.glb 2))] [], .ite (.cmp .Eq (.var 0) (.cst (.str (K 23)))) [.ret (.bin .Mod (.bin .Sub (.var 1) (.var 2)) (.glb 2))] [], .ite (.cmp .Eq (.var 0) (.cst (.str (K 24)))) [.ret (.bin .Mod (.bin .Mult (.var 1) (.var 2)) (.glb 2))] [], .ite (.cmp .Eq (.var 0) (.cst (.str (K 25)))) [.ret (.bin .BitAnd (.var 1) (.var 2))] [], .ite (.cmp .Eq (.var 0) (.cst (.str (K 26)))) [.ret (.bin .BitOr (.var 1) (.var 2))] [], .ite (.cmp .Eq (.var 0) (.cst (.str (K 27)))) [.ret (.bin .BitXor (.var 1) (.var 2))] [], .ite (.cmp .Eq (.var 0) (.cst (.str (K 28)))) [.ret (.bcall .int [(.call 17 [(.cst (.str (K 19))), (.var 1), (.var 2)] [] [])])] [], .ret (.bcall .int [(.call 17 [(.cst (.str (K 21))), (.var 1), (.var 2)] [] [])])]
def fi18 : FnI := ⟨3, 3, s_18⟩
/-- start_state -/
def s_19 : List S := [.ret (.tup [(.idx (.idx (.var 0) (.cst (.int 1))) (.var 1)), (.glb 7), (.cst (.bl false)), (.glb 6)])]
def fi19 : FnI := ⟨2, 2, s_19⟩
/-- instruction_at -/
def s_20 : List S := [.ite (.cmp .Lt (.var 1) (.bcall .len [(.idx (.var 0) (.cst (.int 0)))])) [.ret (.idx (.idx (.var 0) (.cst (.int 0))) (.var 1))] [], .ret (.cst (.non))]
def fi20 : FnI := ⟨2, 2, s_20⟩
/-- uses_memory -/
def s_21 : List S := [.ret .nev]
def fi21 : FnI := ⟨1, 1, s_21⟩
/-- address_from -/
def s_22 : List S := [.ite (.bool false [(.cmp .Eq (.idx (.var 0) (.cst (.int 0))) (.cst (.str (K 29)))), (.cmp .Eq (.idx (.var 0) (.cst (.int 0))) (.cst (.str (K 30))))]) [.ret (.bin .Mod (.bin .Add (.var 1) (.idx (.var 0) (.cst (.int 3)))) (.glb 2))] [], .ret (.var 1)]
def fi22 : FnI := ⟨2, 2, s_22⟩
/-- operand_registers -/
def s_23 : List S := [.ite (.bool false [(.cmp .In (.idx (.var 0) (.cst (.int 0))) (.glb 4)), (.cmp .Eq (.idx (.var 0) (.cst (.int 0))) (.cst (.str (K 31))))]) [.ret (.tup [(.idx (.var 0) (.cst (.int 2))), (.idx (.var 0) (.cst (.int 3)))])] [], .ite (.cmp .Eq (.idx (.var 0) (.cst (.int 0))) (.cst (.str (K 32)))) [.ret (.tup [(.idx (.var 0) (.cst (.int 2))), (.cst (.int 0))])] [], .ret (.tup [(.cst (.int 0)), (.cst (.int 0))])]
def fi23 : FnI := ⟨1, 1, s_23⟩
/-- result_of -/
def s_24 : List S := [.ite (.cmp .Eq (.idx (.var 0) (.cst (.int 0))) (.cst (.str (K 32)))) [.ret (.call 18 [(.cst (.str (K 22))), (.var 1), (.idx (.var 0) (.cst (.int 3)))] [] [])] [], .ret (.call 18 [(.idx (.var 0) (.cst (.int 0))), (.var 1), (.var 2)] [] [])]
def fi24 : FnI := ⟨3, 3, s_24⟩
/-- address_after -/
def s_25 : List S := [.ite (.cmp .Eq (.idx (.var 0) (.cst (.int 0))) (.cst (.str (K 33)))) [.ret (.idx (.var 0) (.cst (.int 1)))] [], .ite (.bool true [(.cmp .Eq (.idx (.var 0) (.cst (.int 0))) (.cst (.str (K 31)))), (.call 17 [(.idx (.var 0) (.cst (.int 1))), (.var 2), (.var 3)] [] [])]) [.ret (.idx (.var 0) (.cst (.int 4)))] [], .ret (.bin .Add (.var 1) (.cst (.int 1)))]
def fi25 : FnI := ⟨4, 4, s_25⟩
/-- with_register -/
def s_26 : List S := [.ite (.cmp .Eq (.var 1) (.cst (.int 0))) [.ret (.var 0)] [], .ret (.bin .Add (.bin .Add (.slc (.var 0) [] [(.var 1)]) (.tup [(.var 2)])) (.slc (.var 0) [(.bin .Add (.var 1) (.cst (.int 1)))] []))]
def fi26 : FnI := ⟨3, 3, s_26⟩
/-- start_pipeline -/
def s_27 : List S := [.ret (.tup [(.call 19 [(.var 0), (.var 1)] [] []), (.tup []), (.tup []), (.cst (.bl false)), (.cst (.int 0))])]
def fi27 : FnI := ⟨2, 2, s_27⟩
/-- is_predictable -/
def s_28 : List S := [.ret (.bool false [(.cmp .Eq (.idx (.var 0) (.cst (.int 0))) (.cst (.str (K 29)))), (.cmp .In (.idx (.var 0) (.cst (.int 0))) (.glb 8))])]
def fi28 : FnI := ⟨1, 1, s_28⟩
/-- predicted -/
def s_29 : List S := [.asg (.name 4) (.call 20 [(.var 0), (.var 1)] [] []), .ite (.cmp .Is (.var 4) (.cst (.non))) [.ret (.tup [(.bin .Add (.var 1) (.cst (.int 1))), (.cst (.non))])] [], .ite (.cmp .Eq (.idx (.var 4) (.cst (.int 0))) (.cst (.str (K 33)))) [.ret (.tup [(.idx (.var 4) (.cst (.int 1))), (.cst (.non))])] [], .ite (.bool true [(.cmp .Eq (.idx (.var 4) (.cst (.int 0))) (.cst (.str (K 31)))), (.cmp .IsNot (.var 2) (.cst (.non)))]) [.ret (.tup [(.var 2), (.cst (.non))])] [], .ite (.call 28 [(.var 4)] [] []) [.ret (.tup [(.bin .Add (.var 1) (.cst (.int 1))), (.var 3)])] [], .ret (.tup [(.bin .Add (.var 1) (.cst (.int 1))), (.cst (.non))])]
def fi29 : FnI := ⟨4, 5, s_29⟩
/-- has_result -/
def s_30 : List S := [.ret (.bool false [(.cmp .In (.idx (.var 0) (.cst (.int 0))) (.glb 4)), (.cmp .Eq (.idx (.var 0) (.cst (.int 0))) (.cst (.str (K 32))))])]
def fi30 : FnI := ⟨1, 1, s_30⟩
/-- destination -/
def s_31 : List S := [.ite (.bool false [(.cmp .Is (.var 0) (.cst (.non))), (.bool true [(.nt (.call 30 [(.var 0)] [] [])), (.nt (.call 28 [(.var 0)] [] []))])]) [.ret (.cst (.non))] [], .ite (.cmp .Eq (.idx (.var 0) (.cst (.int 1))) (.cst (.int 0))) [.ret (.cst (.non))] [], .ret (.idx (.var 0) (.cst (.int 1)))]
def fi31 : FnI := ⟨1, 1, s_31⟩
/-- operand -/
def s_32 : List S := [.ite (.cmp .Eq (.var 2) (.cst (.int 0))) [.ret (.cst (.int 0))] [], .for (.tup [.name 3, .name 4, .name 5, .name 6, .name 7, .name 8, .name 9]) .rev [(.slc (.idx (.var 0) (.cst (.int 1))) [] [(.var 1)])] [.ite (.cmp .Eq (.call 31 [(.var 4)] [] []) (.var 2)) [.ite (.cmp .Is (.var 7) (.cst (.non))) [.ret (.var 6)] [], .ret (.var 7)] []], .ret (.idx (.idx (.idx (.var 0) (.cst (.int 0))) (.cst (.int 1))) (.var 2))]
def fi32 : FnI := ⟨3, 10, s_32⟩
/-- with_entry -/
def s_33 : List S := [.asg (.tup [.name 4, .name 5, .name 6, .name 7, .name 8]) (.var 0), .asg (.name 9) (.tup []), .ite (.var 3) [.asg (.name 9) (.slc (.var 5) [(.bin .Add (.var 1) (.cst (.int 1)))] [])] [], .ret (.tup [(.var 4), (.bin .Add (.bin .Add (.slc (.var 5) [] [(.var 1)]) (.tup [(.var 2)])) (.var 9)), (.var 6), (.var 7), (.var 8)])]
def fi33 : FnI := ⟨4, 10, s_33⟩
/-- fetch -/
def s_34 : List S := [.asg (.tup [.name 5, .name 6, .name 7, .name 8, .name 9]) (.var 2), .ite (.bool false [(.idx (.var 5) (.cst (.int 2))), (.cmp .GtE (.bcall .len [(.var 6)]) (.fld (.var 1) (K 34)))]) [.ret (.cst (.non))] [], .asg (.name 10) (.idx (.var 5) (.cst (.int 0))), .ite (.var 6) [.asg (.name 10) (.idx (.idx (.var 6) (.neg (.cst (.int 1)))) (.cst (.int 2)))] [], .asg (.tup [.name 11, .name 12]) (.call 29 [(.var 0), (.var 10), (.var 3), (.var 4)] [] []), .asg (.name 13) (.tup [(.var 10), (.call 20 [(.var 0), (.var 10)] [] []), (.var 11), (.var 12), (.cst (.non)), (.cst (.non)), (.cst (.non))]), .ret (.tup [(.var 5), (.bin .Add (.var 6) (.tup [(.var 13)])), (.var 7), (.var 8), (.var 9)])]
def fi34 : FnI := ⟨5, 14, s_34⟩
/-- is_executed -/
def s_35 : List S := [.ite (.cmp .Is (.var 0) (.cst (.non))) [.ret (.cst (.bl false))] [], .ret (.bool false [(.call 30 [(.var 0)] [] []), (.cmp .Eq (.idx (.var 0) (.cst (.int 0))) (.cst (.str (K 31)))), (.cmp .Eq (.idx (.var 0) (.cst (.int 0))) (.cst (.str (K 33))))])]
def fi35 : FnI := ⟨1, 1, s_35⟩
/-- execute -/
def s_36 : List S := [.ite (.cmp .GtE (.var 1) (.bcall .len [(.idx (.var 0) (.cst (.int 1)))])) [.ret (.cst (.non))] [], .asg (.tup [.name 2, .name 3, .name 4, .name 5, .name 6, .name 7, .name 8]) (.idx (.idx (.var 0) (.cst (.int 1))) (.var 1)), .ite (.bool false [(.cmp .IsNot (.var 6) (.cst (.non))), (.nt (.call 35 [(.var 3)] [] []))]) [.ret (.cst (.non))] [], .asg (.tup [.name 9, .name 10]) (.call 23 [(.var 3)] [] []), .asg (.name 11) (.call 32 [(.var 0), (.var 1), (.var 9)] [] []), .asg (.name 12) (.call 32 [(.var 0), (.var 1), (.var 10)] [] []), .ite (.bool false [(.cmp .Is (.var 11) (.cst (.non))), (.cmp .Is (.var 12) (.cst (.non)))]) [.ret (.cst (.non))] [], .asg (.name 6) (.cst (.int 0)), .ite (.call 30 [(.var 3)] [] []) [.asg (.name 6) (.call 24 [(.var 3), (.var 11), (.var 12)] [] [])] [], .asg (.name 13) (.call 25 [(.var 3), (.var 2), (.var 11), (.var 12)] [] []), .ret (.call 33 [(.var 0), (.var 1), (.tup [(.var 2), (.var 3), (.var 13), (.var 5), (.var 6), (.var 7), (.var 8)]), (.cmp .Eq (.var 13) (.var 4))] [] [])]
def fi36 : FnI := ⟨2, 14, s_36⟩
/-- is_unresolved -/
def s_37 : List S := [.ret (.bool true [(.cmp .IsNot (.idx (.var 0) (.cst (.int 1))) (.cst (.non))), (.call 21 [(.idx (.var 0) (.cst (.int 1)))] [] []), (.cmp .Is (.idx (.var 0) (.cst (.int 5))) (.cst (.non)))])]
def fi37 : FnI := ⟨1, 1, s_37⟩
/-- resolve -/
def s_38 : List S := [.asg (.name 3) (.idx (.var 1) (.cst (.int 1))), .ite (.bool false [(.cmp .GtE (.var 2) (.bcall .len [(.var 3)])), (.nt (.call 37 [(.idx (.var 3) (.var 2))] [] []))]) [.ret (.cst (.non))] [], .ite (.bcall .any [(.lc (.call 37 [(.var 4)] [] []) (.name 4) .seq [(.slc (.var 3) [] [(.var 2)])] [] [4])]) [.ret (.cst (.non))] [], .asg (.tup [.name 5, .name 6, .name 7, .name 8, .name 9, .name 10, .name 11]) (.idx (.var 3) (.var 2)), .asg (.name 12) (.call 32 [(.var 1), (.var 2), (.idx (.var 6) (.cst (.int 2)))] [] []), .ite (.cmp .Is (.var 12) (.cst (.non))) [.ret (.cst (.non))] [], .asg (.name 10) (.call 22 [(.var 6), (.var 12)] [] []), .ite (.cmp .GtE (.var 10) (.bcall .len [(.idx (.var 0) (.cst (.int 2)))])) [.asg (.name 10) (.glb 10)] [], .ret (.call 33 [(.var 1), (.var 2), (.tup [(.var 5), (.var 6), (.var 7), (.var 8), (.var 9), (.var 10), (.var 11)]), (.cst (.bl true))] [] [])]
def fi38 : FnI := ⟨3, 13, s_38⟩
/-- buffered_word -/
def s_39 : List S := [.asg (.name 4) (.call 1 [(.idx (.var 1) (.cst (.int 2))), (.var 3)] [] []), .ite (.cmp .Is (.var 4) (.cst (.non))) [.ret (.call 9 [(.var 0), (.var 2), (.var 3)] [] [])] [], .ret (.var 4)]
def fi39 : FnI := ⟨4, 5, s_39⟩
/-- is_placed_load -/
def s_40 : List S := [.ite (.cmp .GtE (.var 1) (.bcall .len [(.idx (.var 0) (.cst (.int 1)))])) [.ret (.cst (.bl false))] [], .asg (.tup [.name 2, .name 3]) (.tup [(.idx (.idx (.idx (.var 0) (.cst (.int 1))) (.var 1)) (.cst (.int 1))), (.idx (.idx (.idx (.var 0) (.cst (.int 1))) (.var 1)) (.cst (.int 5)))]), .ret (.bool true [(.cmp .IsNot (.var 3) (.cst (.non))), (.cmp .NotEq (.var 3) (.glb 10)), (.cmp .Eq (.idx (.var 2) (.cst (.int 0))) (.cst (.str (K 29))))])]
def fi40 : FnI := ⟨2, 4, s_40⟩
/-- readable_word -/
def s_41 : List S := [.ite (.nt (.call 40 [(.var 1), (.var 3)] [] [])) [.ret (.cst (.non))] [], .asg (.name 4) (.idx (.idx (.idx (.var 1) (.cst (.int 1))) (.var 3)) (.cst (.int 5))), .for (.name 5) .revRange [(.var 3)] [.asg (.tup [.name 6, .name 7]) (.tup [(.idx (.idx (.idx (.var 1) (.cst (.int 1))) (.var 5)) (.cst (.int 1))), (.idx (.idx (.idx (.var 1) (.cst (.int 1))) (.var 5)) (.cst (.int 5)))]), .ite (.bool true [(.cmp .Eq (.var 7) (.var 4)), (.cmp .Eq (.idx (.var 6) (.cst (.int 0))) (.cst (.str (K 30))))]) [.ret (.call 32 [(.var 1), (.var 5), (.idx (.var 6) (.cst (.int 1)))] [] [])] []], .ret (.call 39 [(.var 0), (.var 1), (.var 2), (.var 4)] [] [])]
def fi41 : FnI := ⟨4, 8, s_41⟩
/-- holds_back -/
def s_42 : List S := [.asg (.tup [.name 2, .name 3, .name 4, .name 5, .name 6, .name 7, .name 8]) (.var 0), .ite (.cmp .Is (.var 3) (.cst (.non))) [.ret (.cst (.bl false))] [], .ite (.cmp .Eq (.idx (.var 3) (.cst (.int 0))) (.cst (.str (K 35)))) [.ret (.cmp .In (.idx (.var 3) (.cst (.int 1))) (.glb 11))] [], .ite (.cmp .Eq (.idx (.var 3) (.cst (.int 0))) (.cst (.str (K 29)))) [.ret (.bool true [(.cmp .Eq (.var 7) (.var 1)), (.cmp .Is (.var 6) (.cst (.non)))])] [], .ret (.bool true [(.cmp .Eq (.var 7) (.var 1)), (.cmp .In (.idx (.var 3) (.cst (.int 0))) (.glb 8))])]
def fi42 : FnI := ⟨2, 9, s_42⟩
/-- load -/
def s_43 : List S := [.ite (.nt (.call 40 [(.var 1), (.var 3)] [] [])) [.ret (.cst (.non))] [], .asg (.tup [.name 5, .name 6, .name 7, .name 8, .name 9, .name 10, .name 11]) (.idx (.idx (.var 1) (.cst (.int 1))) (.var 3)), .ite (.bool false [(.cmp .IsNot (.var 9) (.cst (.non))), (.bcall .any [(.lc (.call 42 [(.var 12), (.var 10)] [] []) (.name 12) .seq [(.slc (.idx (.var 1) (.cst (.int 1))) [] [(.var 3)])] [] [12])])]) [.ret (.cst (.non))] [], .asg (.name 13) (.call 41 [(.var 0), (.var 1), (.var 2), (.var 3)] [] []), .ite (.cmp .Is (.var 13) (.cst (.non))) [.ret (.cst (.non))] [], .asg (.name 12) (.tup [(.var 5), (.var 6), (.var 7), (.var 8), (.var 13), (.var 10), (.var 4)]), .ret (.call 33 [(.var 1), (.var 3), (.var 12), (.bool false [(.cmp .Is (.var 8) (.cst (.non))), (.cmp .Eq (.var 8) (.var 13))])] [] [])]
def fi43 : FnI := ⟨5, 14, s_43⟩
/-- visible_word -/
def s_44 : List S := [.ret (.call 39 [(.var 0), (.var 1), (.var 2), (.var 3)] [] [])]
def fi44 : FnI := ⟨4, 4, s_44⟩
/-- committed -/
def s_45 : List S := [.asg (.tup [.name 4, .name 5, .name 6, .name 7, .name 8]) (.var 0), .asg (.name 9) (.tup [(.var 1), (.call 26 [(.idx (.var 4) (.cst (.int 1))), (.var 2), (.var 3)] [] []), (.cst (.bl false)), (.idx (.var 4) (.cst (.int 3)))]), .ret (.tup [(.var 9), (.slc (.var 5) [(.cst (.int 1))] []), (.var 6), (.var 7), (.bin .Add (.var 8) (.cst (.int 1)))])]
def fi45 : FnI := ⟨4, 10, s_45⟩
/-- commit_halt -/
def s_46 : List S := [.asg (.tup [.name 1, .name 2, .name 3, .name 4, .name 5]) (.var 0), .ret (.tup [(.tup [(.idx (.var 1) (.cst (.int 0))), (.idx (.var 1) (.cst (.int 1))), (.cst (.bl true)), (.idx (.var 1) (.cst (.int 3)))]), (.tup []), (.var 3), (.var 4), (.bin .Add (.var 5) (.cst (.int 1)))])]
def fi46 : FnI := ⟨1, 6, s_46⟩
/-- commit_fence -/
def s_47 : List S := [.asg (.tup [.name 2, .name 3, .name 4, .name 5, .name 6]) (.call 45 [(.var 0), (.bin .Add (.idx (.idx (.var 0) (.cst (.int 0))) (.cst (.int 0))) (.cst (.int 1))), (.cst (.int 0)), (.cst (.int 0))] [] []), .ite (.bool true [(.cmp .Eq (.var 1) (.cst (.str (K 36)))), (.cmp .Gt (.call 0 [(.var 4)] [] []) (.cst (.int 0)))]) [.ret (.cst (.non))] [], .ite (.cmp .Eq (.var 1) (.cst (.str (K 37)))) [.asg (.name 4) (.call 2 [(.var 4)] [] [])] [], .ret (.tup [(.var 2), (.var 3), (.var 4), (.var 5), (.var 6)])]
def fi47 : FnI := ⟨2, 7, s_47⟩
/-- commit_plain -/
def s_48 : List S := [.asg (.tup [.name 1, .name 2, .name 3, .name 4, .name 5, .name 6, .name 7]) (.idx (.idx (.var 0) (.cst (.int 1))) (.cst (.int 0))), .ite (.bool false [(.cmp .Is (.var 2) (.cst (.non))), (.cmp .Eq (.idx (.var 2) (.cst (.int 0))) (.cst (.str (K 38)))), (.cmp .Eq (.var 6) (.glb 10))]) [.ret (.call 46 [(.var 0)] [] [])] [], .ite (.cmp .Eq (.idx (.var 2) (.cst (.int 0))) (.cst (.str (K 35)))) [.ret (.call 47 [(.var 0), (.idx (.var 2) (.cst (.int 1)))] [] [])] [], .ite (.cmp .Is (.var 5) (.cst (.non))) [.ret (.cst (.non))] [], .ite (.bool false [(.cmp .Eq (.idx (.var 2) (.cst (.int 0))) (.cst (.str (K 31)))), (.cmp .Eq (.idx (.var 2) (.cst (.int 0))) (.cst (.str (K 33))))]) [.ret (.call 45 [(.var 0), (.var 3), (.cst (.int 0)), (.cst (.int 0))] [] [])] [], .ret (.call 45 [(.var 0), (.var 3), (.idx (.var 2) (.cst (.int 1))), (.var 5)] [] [])]
def fi48 : FnI := ⟨1, 8, s_48⟩
/-- commit_load -/
def s_49 : List S := [.asg (.tup [.name 4, .name 5, .name 6, .name 7, .name 8]) (.var 1), .asg (.tup [.name 9, .name 10, .name 11, .name 12, .name 13, .name 14, .name 15]) (.idx (.var 5) (.cst (.int 0))), .ite (.cmp .Is (.var 13) (.cst (.non))) [.ret (.cst (.non))] [], .asg (.name 16) (.call 45 [(.var 1), (.bin .Add (.idx (.var 4) (.cst (.int 0))) (.cst (.int 1))), (.idx (.var 10) (.cst (.int 1))), (.var 13)] [] []), .ite (.cmp .Eq (.fld (.var 0) (K 39)) (.cst (.str (K 40)))) [.ret (.tup [(.var 16), (.var 2), (.tup [(.var 13), (.cst (.bl false))]), (.var 15)])] [], .asg (.name 17) (.call 44 [(.var 0), (.var 1), (.var 2), (.var 14)] [] []), .ite (.cmp .Is (.var 17) (.cst (.non))) [.ret (.cst (.non))] [], .ite (.cmp .NotEq (.var 17) (.var 13)) [.ret (.tup [(.tup [(.var 4), (.tup []), (.var 6), (.var 7), (.var 8)]), (.var 2), (.cst (.non)), (.cst (.non))])] [], .ret (.tup [(.var 16), (.var 2), (.tup [(.var 13), (.cst (.bl false))]), (.var 3)])]
def fi49 : FnI := ⟨4, 18, s_49⟩
/-- commit_store -/
def s_50 : List S := [.ite (.cmp .GtE (.call 0 [(.idx (.var 1) (.cst (.int 2)))] [] []) (.fld (.var 0) (K 41))) [.ret (.cst (.non))] [], .asg (.tup [.name 3, .name 4]) (.tup [(.idx (.idx (.idx (.var 1) (.cst (.int 1))) (.cst (.int 0))) (.cst (.int 1))), (.idx (.idx (.idx (.var 1) (.cst (.int 1))) (.cst (.int 0))) (.cst (.int 5)))]), .asg (.name 5) (.tup [(.cst (.str (K 30))), (.var 4), (.idx (.idx (.idx (.var 1) (.cst (.int 0))) (.cst (.int 1))) (.idx (.var 3) (.cst (.int 1)))), (.idx (.var 1) (.cst (.int 4)))]), .asg (.tup [.name 6, .name 7, .name 8, .name 9, .name 10]) (.call 45 [(.var 1), (.bin .Add (.idx (.idx (.var 1) (.cst (.int 0))) (.cst (.int 0))) (.cst (.int 1))), (.cst (.int 0)), (.cst (.int 0))] [] []), .ret (.tup [(.tup [(.var 6), (.var 7), (.bin .Add (.var 8) (.tup [(.var 5)])), (.var 9), (.var 10)]), (.var 2), (.glb 5), (.cst (.non))])]
def fi50 : FnI := ⟨3, 11, s_50⟩
/-- after_atomic -/
def s_51 : List S := [.asg (.tup [.name 4, .name 5]) (.tup [(.idx (.idx (.idx (.var 0) (.cst (.int 1))) (.cst (.int 0))) (.cst (.int 1))), (.idx (.idx (.idx (.var 0) (.cst (.int 1))) (.cst (.int 0))) (.cst (.int 3)))]), .asg (.tup [.name 6, .name 7, .name 8, .name 9, .name 10]) (.call 45 [(.var 0), (.bin .Add (.idx (.idx (.var 0) (.cst (.int 0))) (.cst (.int 0))) (.cst (.int 1))), (.idx (.var 4) (.cst (.int 1))), (.var 1)] [] []), .ite (.bool true [(.cmp .IsNot (.var 5) (.cst (.non))), (.cmp .NotEq (.var 5) (.var 1))]) [.asg (.name 7) (.tup [])] [], .ret (.tup [(.tup [(.idx (.var 6) (.cst (.int 0))), (.idx (.var 6) (.cst (.int 1))), (.cst (.bl false)), (.var 2)]), (.var 7), (.var 8), (.var 3), (.var 10)])]
def fi51 : FnI := ⟨4, 11, s_51⟩
/-- commit_swap -/
def s_52 : List S := [.asg (.tup [.name 4, .name 5]) (.tup [(.idx (.idx (.idx (.var 1) (.cst (.int 1))) (.cst (.int 0))) (.cst (.int 1))), (.idx (.idx (.idx (.var 1) (.cst (.int 1))) (.cst (.int 0))) (.cst (.int 5)))]), .ite (.nt (.call 10 [(.var 0), (.var 2), (.var 5)] [] [])) [.ret (.cst (.non))] [], .asg (.name 6) (.call 9 [(.var 0), (.var 2), (.var 5)] [] []), .asg (.name 7) (.idx (.idx (.idx (.var 1) (.cst (.int 0))) (.cst (.int 1))) (.idx (.var 4) (.cst (.int 3)))), .ite (.cmp .Eq (.idx (.var 4) (.cst (.int 0))) (.cst (.str (K 42)))) [.asg (.name 7) (.call 18 [(.cst (.str (K 22))), (.var 6), (.var 7)] [] [])] [], .asg (.name 8) (.call 51 [(.var 1), (.var 6), (.idx (.idx (.var 1) (.cst (.int 0))) (.cst (.int 3))), (.idx (.var 1) (.cst (.int 3)))] [] []), .ret (.tup [(.var 8), (.call 11 [(.var 0), (.var 2), (.var 5), (.var 7)] [] []), (.tup [(.var 6), (.cst (.bl false))]), (.var 3)])]
def fi52 : FnI := ⟨4, 9, s_52⟩
/-- commit_linked -/
def s_53 : List S := [.asg (.name 4) (.idx (.idx (.idx (.var 1) (.cst (.int 1))) (.cst (.int 0))) (.cst (.int 5))), .asg (.name 5) (.call 9 [(.var 0), (.var 2), (.var 4)] [] []), .ite (.cmp .Is (.var 5) (.cst (.non))) [.ret (.cst (.non))] [], .ret (.tup [(.call 51 [(.var 1), (.var 5), (.var 4), (.cst (.bl true))] [] []), (.var 2), (.tup [(.var 5), (.cst (.bl false))]), (.var 3)])]
def fi53 : FnI := ⟨4, 6, s_53⟩
/-- commit_conditional -/
def s_54 : List S := [.asg (.tup [.name 4, .name 5]) (.tup [(.idx (.idx (.idx (.var 1) (.cst (.int 1))) (.cst (.int 0))) (.cst (.int 1))), (.idx (.idx (.idx (.var 1) (.cst (.int 1))) (.cst (.int 0))) (.cst (.int 5)))]), .ite (.bool false [(.cmp .NotEq (.idx (.idx (.var 1) (.cst (.int 0))) (.cst (.int 3))) (.var 5)), (.nt (.idx (.var 1) (.cst (.int 3))))]) [.ret (.tup [(.call 51 [(.var 1), (.cst (.int 1)), (.glb 6), (.cst (.bl false))] [] []), (.var 2), (.glb 5), (.var 3)])] [], .asg (.name 6) (.call 11 [(.var 0), (.var 2), (.var 5), (.idx (.idx (.idx (.var 1) (.cst (.int 0))) (.cst (.int 1))) (.idx (.var 4) (.cst (.int 3))))] [] []), .ite (.cmp .Is (.var 6) (.cst (.non))) [.ret (.cst (.non))] [], .ret (.tup [(.call 51 [(.var 1), (.cst (.int 0)), (.glb 6), (.cst (.bl false))] [] []), (.var 6), (.tup [(.cst (.int 0)), (.cst (.bl true))]), (.var 3)])]
def fi54 : FnI := ⟨4, 7, s_54⟩
/-- commit_access -/
def s_55 : List S := [.asg (.tup [.name 4, .name 5]) (.tup [(.idx (.idx (.idx (.idx (.var 1) (.cst (.int 1))) (.cst (.int 0))) (.cst (.int 1))) (.cst (.int 0))), (.idx (.idx (.idx (.var 1) (.cst (.int 1))) (.cst (.int 0))) (.cst (.int 5)))]), .ite (.cmp .Is (.var 5) (.cst (.non))) [.ret (.cst (.non))] [], .ite (.cmp .Eq (.var 4) (.cst (.str (K 29)))) [.ret (.call 49 [(.var 0), (.var 1), (.var 2), (.var 3)] [] [])] [], .ite (.cmp .Eq (.var 4) (.cst (.str (K 30)))) [.ret (.call 50 [(.var 0), (.var 1), (.var 2)] [] [])] [], .ite (.cmp .Gt (.call 0 [(.idx (.var 1) (.cst (.int 2)))] [] []) (.cst (.int 0))) [.ret (.cst (.non))] [], .ite (.cmp .Eq (.var 4) (.cst (.str (K 43)))) [.ret (.call 53 [(.var 0), (.var 1), (.var 2), (.var 3)] [] [])] [], .ite (.cmp .Eq (.var 4) (.cst (.str (K 44)))) [.ret (.call 54 [(.var 0), (.var 1), (.var 2), (.var 3)] [] [])] [], .ret (.call 52 [(.var 0), (.var 1), (.var 2), (.var 3)] [] [])]
def fi55 : FnI := ⟨4, 6, s_55⟩
/-- commit -/
def s_56 : List S := [.asg (.name 4) (.idx (.var 1) (.cst (.int 1))), .ite (.bool false [(.nt (.var 4)), (.bool true [(.cmp .Eq (.fld (.var 0) (K 39)) (.cst (.str (K 0)))), (.cmp .Gt (.call 0 [(.idx (.var 1) (.cst (.int 2)))] [] []) (.cst (.int 0)))])]) [.ret (.cst (.non))] [], .asg (.name 5) (.idx (.idx (.var 4) (.cst (.int 0))) (.cst (.int 1))), .ite (.bool true [(.cmp .IsNot (.var 5) (.cst (.non))), (.call 21 [(.var 5)] [] []), (.cmp .NotEq (.idx (.idx (.var 4) (.cst (.int 0))) (.cst (.int 5))) (.glb 10))]) [.ret (.call 55 [(.var 0), (.var 1), (.var 2), (.var 3)] [] [])] [], .asg (.name 6) (.call 48 [(.var 1)] [] []), .ite (.cmp .Is (.var 6) (.cst (.non))) [.ret (.cst (.non))] [], .ret (.tup [(.var 6), (.var 2), (.glb 5), (.cst (.non))])]
def fi56 : FnI := ⟨4, 7, s_56⟩
/-- drain -/
def s_57 : List S := [.asg (.tup [.name 4, .name 5, .name 6, .name 7, .name 8]) (.var 1), .ite (.nt (.call 3 [(.fld (.var 0) (K 39)), (.var 6), (.var 3)] [] [])) [.ret (.cst (.non))] [], .asg (.tup [.name 9, .name 10, .name 11, .name 12]) (.idx (.var 6) (.var 3)), .asg (.name 13) (.call 11 [(.var 0), (.var 2), (.var 10), (.var 11)] [] []), .ite (.cmp .Is (.var 13) (.cst (.non))) [.ret (.cst (.non))] [], .ret (.tup [(.tup [(.var 4), (.var 5), (.call 4 [(.var 6), (.var 3)] [] []), (.var 7), (.var 8)]), (.var 13), (.var 12)])]
def fi57 : FnI := ⟨4, 14, s_57⟩
/-- keep_reservation -/
def s_58 : List S := [.asg (.tup [.name 3, .name 4, .name 5, .name 6, .name 7]) (.var 1), .ite (.bool false [(.cmp .Eq (.idx (.var 3) (.cst (.int 3))) (.glb 6)), (.cmp .IsNot (.call 9 [(.var 0), (.var 2), (.idx (.var 3) (.cst (.int 3)))] [] []) (.cst (.non)))]) [.ret (.var 1)] [], .ret (.tup [(.var 3), (.var 4), (.var 5), (.cst (.bl false)), (.var 7)])]
def fi58 : FnI := ⟨3, 8, s_58⟩
/-- can_receive -/
def s_59 : List S := [.ret (.bool false [(.cmp .Is (.idx (.var 0) (.cst (.int 2))) (.cst (.non))), (.cmp .NotIn (.idx (.var 1) (.cst (.int 0))) (.glb 13))])]
def fi59 : FnI := ⟨2, 2, s_59⟩
/-- begun -/
def s_60 : List S := [.asg (.tup [.name 3, .name 4]) (.tup [(.idx (.var 0) (.cst (.int 0))), (.idx (.var 0) (.cst (.int 1)))]), .asg (.tup [.name 5, .name 6, .name 7]) (.tup [(.idx (.var 2) (.cst (.int 1))), (.idx (.var 2) (.cst (.int 2))), (.cmp .Eq (.idx (.var 2) (.cst (.int 0))) (.cst (.str (K 8))))]), .ite (.cmp .IsNot (.var 3) (.cst (.non))) [.asg (.name 8) (.tup [(.var 5), (.var 7), (.tup []), (.cst (.bl true)), (.cst (.non)), (.cst (.bl false))]), .ret (.tup [(.tup [(.var 3), (.var 4), (.var 8)]), (.tup [(.tup [(.cst (.str (K 12))), (.var 3), (.var 6), (.nt (.var 7))])])])] [], .asg (.name 9) (.tup []), .ite (.var 7) [.asg (.name 9) (.bcall .tuple [(.lc (.var 10) (.name 10) .seq [(.var 4)] [(.cmp .NotEq (.var 10) (.var 5))] [10])])] [], .asg (.name 11) (.bcall .tuple [(.lc (.tup [(.cst (.str (K 13))), (.var 10), (.var 6)]) (.name 10) .seq [(.var 9)] [] [10])]), .ret (.tup [(.tup [(.var 3), (.var 4), (.tup [(.var 5), (.var 7), (.var 9), (.cst (.bl false)), (.var 1), (.cst (.bl false))])]), (.var 11)])]
def fi60 : FnI := ⟨3, 12, s_60⟩
/-- invalidated -/
def s_61 : List S := [.asg (.tup [.name 2, .name 3, .name 4]) (.var 0), .asg (.tup [.name 5, .name 6, .name 7, .name 8, .name 9, .name 10]) (.var 4), .asg (.name 3) (.bcall .tuple [(.lc (.var 11) (.name 11) .seq [(.var 3)] [(.cmp .NotEq (.var 11) (.var 1))] [11])]), .asg (.name 7) (.bcall .tuple [(.lc (.var 11) (.name 11) .seq [(.var 7)] [(.cmp .NotEq (.var 11) (.var 1))] [11])]), .ret (.tup [(.var 2), (.var 3), (.tup [(.var 5), (.var 6), (.var 7), (.var 8), (.var 9), (.var 10)])])]
def fi61 : FnI := ⟨2, 12, s_61⟩
/-- returned -/
def s_62 : List S := [.asg (.name 2) (.idx (.var 0) (.cst (.int 2))), .asg (.tup [.name 3, .name 4, .name 5, .name 6]) (.tup [(.idx (.var 2) (.cst (.int 0))), (.idx (.var 2) (.cst (.int 1))), (.idx (.var 2) (.cst (.int 2))), (.idx (.var 2) (.cst (.int 5)))]), .asg (.name 7) (.ite (.var 4) (.tup []) (.tup [(.idx (.var 1) (.cst (.int 1)))])), .ret (.tup [(.cst (.non)), (.var 7), (.tup [(.var 3), (.var 4), (.var 5), (.cst (.bl false)), (.idx (.var 1) (.cst (.int 3))), (.var 6)])])]
def fi62 : FnI := ⟨2, 8, s_62⟩
/-- grant_if_ready -/
def s_63 : List S := [.asg (.tup [.name 3, .name 4, .name 5]) (.var 1), .asg (.tup [.name 6, .name 7, .name 8, .name 9, .name 10, .name 11]) (.var 5), .ite (.bool false [(.var 11), (.var 8), (.var 9), (.cmp .Is (.var 10) (.cst (.non)))]) [.ret (.tup [(.var 1), (.tup [])])] [], .asg (.name 12) (.cst (.str (K 4))), .ite (.var 7) [.asg (.tup [.name 12, .name 3, .name 4]) (.tup [(.cst (.str (K 5))), (.var 6), (.tup [])])] [.ite (.bool true [(.fld (.var 0) (K 45)), (.nt (.var 4))]) [.asg (.tup [.name 12, .name 3]) (.tup [(.cst (.str (K 46))), (.var 6)])] [.ite (.cmp .NotIn (.var 6) (.var 4)) [.asg (.name 4) (.bin .Add (.var 4) (.tup [(.var 6)]))] []]], .asg (.name 5) (.tup [(.var 6), (.var 7), (.var 8), (.var 9), (.var 10), (.cst (.bl true))]), .ret (.tup [(.tup [(.var 3), (.var 4), (.var 5)]), (.tup [(.tup [(.cst (.str (K 15))), (.var 6), (.var 2), (.var 12), (.var 10)])])])]
def fi63 : FnI := ⟨3, 13, s_63⟩
/-- home_receives -/
def s_64 : List S := [.asg (.tup [.name 4, .name 5, .name 6]) (.var 1), .asg (.tup [.name 7, .name 8, .name 9]) (.tup [(.idx (.var 3) (.cst (.int 0))), (.idx (.var 3) (.cst (.int 1))), (.idx (.var 3) (.cst (.int 2)))]), .ite (.cmp .Eq (.var 7) (.cst (.str (K 10)))) [.ite (.cmp .Eq (.var 4) (.var 8)) [.asg (.name 4) (.cst (.non)), .asg (.name 2) (.ite (.idx (.var 3) (.cst (.int 4))) (.idx (.var 3) (.cst (.int 3))) (.var 2))] [], .ret (.tup [(.tup [(.var 4), (.var 5), (.cst (.non))]), (.var 2), (.tup [(.tup [(.cst (.str (K 47))), (.var 8), (.var 9)])])])] [], .ite (.cmp .Eq (.var 7) (.cst (.str (K 16)))) [.ret (.tup [(.tup [(.var 4), (.var 5), (.cst (.non))]), (.var 2), (.tup [])])] [], .asg (.name 10) (.tup []), .ite (.cmp .Eq (.var 7) (.cst (.str (K 14)))) [.asg (.name 1) (.call 61 [(.var 1), (.var 8)] [] [])] [.ite (.cmp .Eq (.var 7) (.cst (.str (K 11)))) [.asg (.name 1) (.call 62 [(.var 1), (.var 3)] [] []), .asg (.name 2) (.ite (.idx (.var 3) (.cst (.int 4))) (.idx (.var 3) (.cst (.int 3))) (.var 2))] [.asg (.tup [.name 1, .name 10]) (.call 60 [(.var 1), (.var 2), (.var 3)] [] [])]], .asg (.tup [.name 1, .name 11]) (.call 63 [(.var 0), (.var 1), (.var 9)] [] []), .ret (.tup [(.var 1), (.var 2), (.bin .Add (.var 10) (.var 11))])]
def fi64 : FnI := ⟨4, 12, s_64⟩
/-- replaced -/
def s_65 : List S := [.ret (.bin .Add (.bin .Add (.slc (.var 0) [] [(.var 1)]) (.tup [(.var 2)])) (.slc (.var 0) [(.bin .Add (.var 1) (.cst (.int 1)))] []))]
def fi65 : FnI := ⟨3, 3, s_65⟩
/-- start_system -/
def s_66 : List S := [.asg (.name 2) (.idx (.var 0) (.cst (.int 2))), .asg (.name 3) (.bin .FloorDiv (.bin .Sub (.bin .Add (.bcall .len [(.var 2)]) (.fld (.var 1) (K 3))) (.cst (.int 1))) (.fld (.var 1) (K 3))), .asg (.name 4) (.bcall .tuple [(.lc (.glb 1) (.name 5) .seq [(.idx (.var 0) (.cst (.int 1)))] [] [5])]), .ret (.tup [(.var 4), (.bcall .tuple [(.lc (.glb 12) (.name 6) .range [(.var 3)] [] [6])]), (.var 2), (.tup [])])]
def fi66 : FnI := ⟨2, 7, s_66⟩
/-- deliverable -/
def s_67 : List S := [.asg (.tup [.name 1, .name 2]) (.tup [(.idx (.var 0) (.cst (.int 1))), (.idx (.var 0) (.cst (.int 3)))]), .own 3 (.lst []), .for (.tup [.name 4, .name 5]) .enum [(.var 2)] [.ite (.bool false [(.cmp .In (.idx (.var 5) (.cst (.int 0))) (.glb 14)), (.call 59 [(.idx (.var 1) (.idx (.var 5) (.cst (.int 2)))), (.var 5)] [] [])]) [.meth .append (.var 3) [(.var 4)]] []], .ret (.bcall .tuple [(.var 3)])]
def fi67 : FnI := ⟨1, 6, s_67⟩
/-- delivered -/
def s_68 : List S := [.asg (.tup [.name 3, .name 4, .name 5, .name 6]) (.var 1), .asg (.name 7) (.idx (.var 6) (.var 2)), .asg (.name 8) (.bin .Add (.slc (.var 6) [] [(.var 2)]) (.slc (.var 6) [(.bin .Add (.var 2) (.cst (.int 1)))] [])), .asg (.tup [.name 9, .name 10]) (.tup [(.idx (.var 7) (.cst (.int 1))), (.idx (.var 7) (.cst (.int 2)))]), .ite (.cmp .In (.idx (.var 7) (.cst (.int 0))) (.glb 14)) [.asg (.tup [.name 11, .name 12]) (.call 15 [(.idx (.var 3) (.var 9)), (.var 7)] [] []), .ret (.tup [(.call 65 [(.var 3), (.var 9), (.var 11)] [] []), (.var 4), (.var 5), (.bin .Add (.var 8) (.var 12))])] [], .asg (.name 13) (.bin .Mult (.var 10) (.fld (.var 0) (K 3))), .asg (.name 14) (.slc (.var 5) [(.var 13)] [(.bin .Add (.var 13) (.fld (.var 0) (K 3)))]), .asg (.tup [.name 15, .name 14, .name 12]) (.call 64 [(.var 0), (.idx (.var 4) (.var 10)), (.var 14), (.var 7)] [] []), .asg (.name 5) (.bin .Add (.bin .Add (.slc (.var 5) [] [(.var 13)]) (.var 14)) (.slc (.var 5) [(.bin .Add (.var 13) (.fld (.var 0) (K 3)))] [])), .ret (.tup [(.var 3), (.call 65 [(.var 4), (.var 10), (.var 15)] [] []), (.var 5), (.bin .Add (.var 8) (.var 12))])]
def fi68 : FnI := ⟨3, 16, s_68⟩
/-- next_system -/
def s_69 : List S := [.asg (.tup [.name 3, .name 4, .name 5, .name 6]) (.var 1), .ite (.cmp .Eq (.idx (.var 2) (.cst (.int 0))) (.cst (.str (K 49)))) [.ite (.cmp .NotIn (.idx (.var 2) (.cst (.int 1))) (.call 67 [(.var 1)] [] [])) [.ret (.cst (.non))] [], .ret (.call 68 [(.var 0), (.var 1), (.idx (.var 2) (.cst (.int 1)))] [] [])] [], .asg (.tup [.name 7, .name 8]) (.tup [(.idx (.var 2) (.cst (.int 1))), (.idx (.var 2) (.cst (.int 2)))]), .ite (.nt (.bool true [(.chain .LtE .Lt (.cst (.int 0)) (.var 7) (.bcall .len [(.var 3)])), (.chain .LtE .Lt (.cst (.int 0)) (.var 8) (.bcall .len [(.var 4)]))])) [.ret (.cst (.non))] [], .ite (.cmp .Eq (.idx (.var 2) (.cst (.int 0))) (.cst (.str (K 50)))) [.asg (.name 9) (.call 12 [(.var 0), (.idx (.var 3) (.var 7)), (.var 7), (.var 8), (.idx (.var 2) (.cst (.int 3)))] [] [])] [.asg (.name 9) (.call 13 [(.idx (.var 3) (.var 7)), (.var 7), (.var 8)] [] [])], .ite (.cmp .Is (.var 9) (.cst (.non))) [.ret (.cst (.non))] [], .ret (.tup [(.call 65 [(.var 3), (.var 7), (.idx (.var 9) (.cst (.int 0)))] [] []), (.var 4), (.var 5), (.bin .Add (.var 6) (.idx (.var 9) (.cst (.int 1))))])]
def fi69 : FnI := ⟨3, 10, s_69⟩
/-- start_machine -/
def s_73 : List S := [.asg (.name 2) (.bcall .range [(.bcall .len [(.idx (.var 0) (.cst (.int 1)))])]), .asg (.name 3) (.bcall .tuple [(.lc (.call 27 [(.var 0), (.var 4)] [] []) (.name 4) .seq [(.var 2)] [] [4])]), .ret (.tup [(.cst (.int 0)), (.var 3), (.call 66 [(.var 0), (.var 1)] [] []), (.bcall .tuple [(.lc (.tup []) (.name 4) .seq [(.var 2)] [] [4])]), (.tup [])])]
def fi73 : FnI := ⟨2, 5, s_73⟩
/-- replaced -/
def s_74 : List S := [.ret (.bin .Add (.bin .Add (.slc (.var 0) [] [(.var 1)]) (.tup [(.var 2)])) (.slc (.var 0) [(.bin .Add (.var 1) (.cst (.int 1)))] []))]
def fi74 : FnI := ⟨3, 3, s_74⟩
/-- with_core -/
def s_75 : List S := [.asg (.tup [.name 4, .name 5, .name 6, .name 7, .name 8]) (.var 0), .asg (.tup [.name 9, .name 10, .name 11, .name 12]) (.var 6), .asg (.name 6) (.tup [(.call 74 [(.var 9), (.var 1), (.var 3)] [] []), (.var 10), (.var 11), (.var 12)]), .ret (.tup [(.var 4), (.call 74 [(.var 5), (.var 1), (.var 2)] [] []), (.var 6), (.var 7), (.var 8)])]
def fi75 : FnI := ⟨4, 13, s_75⟩
/-- after_inner -/
def s_76 : List S := [.asg (.tup [.name 4, .name 5]) (.tup [(.idx (.var 3) (.cst (.int 0))), (.idx (.var 3) (.cst (.int 1)))]), .asg (.tup [.name 6, .name 7]) (.tup [(.idx (.idx (.var 2) (.cst (.int 1))) (.var 5)), (.idx (.idx (.idx (.var 2) (.cst (.int 2))) (.cst (.int 0))) (.var 5))]), .ite (.cmp .Eq (.var 4) (.cst (.str (K 51)))) [.asg (.name 6) (.call 34 [(.var 0), (.var 1), (.var 6), (.idx (.var 3) (.cst (.int 2))), (.idx (.var 3) (.cst (.int 3)))] [] [])] [.ite (.cmp .Eq (.var 4) (.cst (.str (K 52)))) [.asg (.name 6) (.call 36 [(.var 6), (.idx (.var 3) (.cst (.int 2)))] [] [])] [.ite (.cmp .Eq (.var 4) (.cst (.str (K 53)))) [.asg (.name 6) (.call 38 [(.var 0), (.var 6), (.idx (.var 3) (.cst (.int 2)))] [] [])] [.asg (.name 6) (.call 43 [(.var 1), (.var 6), (.var 7), (.idx (.var 3) (.cst (.int 2))), (.idx (.var 2) (.cst (.int 0)))] [] [])]]], .ite (.cmp .Is (.var 6) (.cst (.non))) [.ret (.cst (.non))] [], .ret (.call 75 [(.var 2), (.var 5), (.var 6), (.var 7)] [] [])]
def fi76 : FnI := ⟨4, 8, s_76⟩
/-- after_commit -/
def s_77 : List S := [.asg (.name 3) (.idx (.idx (.idx (.var 1) (.cst (.int 1))) (.var 2)) (.cst (.int 4))), .asg (.name 4) (.call 56 [(.var 0), (.idx (.idx (.var 1) (.cst (.int 1))) (.var 2)), (.idx (.idx (.idx (.var 1) (.cst (.int 2))) (.cst (.int 0))) (.var 2)), (.idx (.var 1) (.cst (.int 0)))] [] []), .ite (.cmp .Is (.var 4) (.cst (.non))) [.ret (.cst (.non))] [], .asg (.tup [.name 5, .name 6, .name 7, .name 8]) (.var 4), .asg (.tup [.name 9, .name 10, .name 11, .name 12, .name 13]) (.call 75 [(.var 1), (.var 2), (.var 5), (.var 6)] [] []), .ite (.cmp .IsNot (.var 7) (.cst (.non))) [.asg (.name 12) (.call 74 [(.var 12), (.var 2), (.bin .Add (.idx (.var 12) (.var 2)) (.tup [(.var 7)]))] [] [])] [], .ite (.cmp .IsNot (.var 8) (.cst (.non))) [.asg (.name 13) (.bin .Add (.var 13) (.tup [(.tup [(.var 8), (.var 2), (.var 3)])]))] [], .ret (.tup [(.var 9), (.var 10), (.var 11), (.var 12), (.var 13)])]
def fi77 : FnI := ⟨3, 14, s_77⟩
/-- after_drain -/
def s_78 : List S := [.asg (.name 4) (.call 57 [(.var 0), (.idx (.idx (.var 1) (.cst (.int 1))) (.var 2)), (.idx (.idx (.idx (.var 1) (.cst (.int 2))) (.cst (.int 0))) (.var 2)), (.var 3)] [] []), .ite (.cmp .Is (.var 4) (.cst (.non))) [.ret (.cst (.non))] [], .asg (.tup [.name 5, .name 6, .name 7]) (.var 4), .asg (.tup [.name 8, .name 9, .name 10, .name 11, .name 12]) (.call 75 [(.var 1), (.var 2), (.var 5), (.var 6)] [] []), .ret (.tup [(.var 8), (.var 9), (.var 10), (.var 11), (.bin .Add (.var 12) (.tup [(.tup [(.var 8), (.var 2), (.var 7)])]))])]
def fi78 : FnI := ⟨4, 13, s_78⟩
/-- changed_machine -/
def s_79 : List S := [.asg (.tup [.name 4, .name 5, .name 6, .name 7, .name 8]) (.var 2), .ite (.cmp .In (.idx (.var 3) (.cst (.int 0))) (.glb 15)) [.asg (.name 6) (.call 69 [(.var 1), (.var 6), (.var 3)] [] []), .ite (.cmp .Is (.var 6) (.cst (.non))) [.ret (.cst (.non))] [], .ret (.tup [(.var 4), (.var 5), (.var 6), (.var 7), (.var 8)])] [], .ite (.nt (.chain .LtE .Lt (.cst (.int 0)) (.idx (.var 3) (.cst (.int 1))) (.bcall .len [(.var 5)]))) [.ret (.cst (.non))] [], .ite (.cmp .Eq (.idx (.var 3) (.cst (.int 0))) (.cst (.str (K 54)))) [.ret (.call 77 [(.var 1), (.var 2), (.idx (.var 3) (.cst (.int 1)))] [] [])] [], .ite (.bool true [(.cmp .In (.idx (.var 3) (.cst (.int 0))) (.glb 16)), (.cmp .Lt (.idx (.var 3) (.cst (.int 2))) (.cst (.int 0)))]) [.ret (.cst (.non))] [], .ite (.cmp .Eq (.idx (.var 3) (.cst (.int 0))) (.cst (.str (K 55)))) [.ret (.call 78 [(.var 1), (.var 2), (.idx (.var 3) (.cst (.int 1))), (.idx (.var 3) (.cst (.int 2)))] [] [])] [], .ret (.call 76 [(.var 0), (.var 1), (.var 2), (.var 3)] [] [])]
def fi79 : FnI := ⟨4, 9, s_79⟩
/-- after_action -/
def s_80 : List S := [.asg (.name 4) (.call 79 [(.var 0), (.var 1), (.var 2), (.var 3)] [] []), .ite (.cmp .Is (.var 4) (.cst (.non))) [.ret (.cst (.non))] [], .asg (.tup [.name 5, .name 6, .name 7, .name 8, .name 9]) (.var 4), .asg (.name 10) (.lc (.call 58 [(.var 1), (.var 11), (.var 12)] [] []) (.tup [.name 11, .name 12]) .zip [(.var 6), (.idx (.var 7) (.cst (.int 0)))] [] [11, 12]), .ret (.tup [(.bin .Add (.var 5) (.cst (.int 1))), (.bcall .tuple [(.var 10)]), (.var 7), (.var 8), (.var 9)])]
def fi80 : FnI := ⟨4, 13, s_80⟩
/-- obtain -/
def s_84 : List S := [.asg (.name 5) (.idx (.idx (.idx (.var 1) (.cst (.int 2))) (.cst (.int 0))) (.var 2)), .asg (.name 6) (.call 5 [(.idx (.var 5) (.cst (.int 0))), (.var 3)] [] []), .ite (.cmp .IsNot (.var 6) (.cst (.non))) [.ite (.bool true [(.var 4), (.cmp .Eq (.idx (.var 6) (.cst (.int 1))) (.cst (.str (K 4))))]) [.ret (.tup [(.cst (.str (K 50))), (.var 2), (.var 3), (.cst (.bl true))])] [], .ret (.cst (.non))] [], .ite (.cmp .Lt (.call 8 [(.var 0), (.var 5), (.var 3)] [] []) (.fld (.var 0) (K 7))) [.ret (.tup [(.cst (.str (K 50))), (.var 2), (.var 3), (.var 4)])] [], .for (.tup [.name 7, .name 8, .name 9]) .seq [(.idx (.var 5) (.cst (.int 0)))] [.ite (.cmp .Eq (.bin .Mod (.var 7) (.fld (.var 0) (K 2))) (.bin .Mod (.var 3) (.fld (.var 0) (K 2)))) [.ret (.tup [(.cst (.str (K 56))), (.var 2), (.var 7)])] []], .ret (.cst (.non))]
def fi84 : FnI := ⟨5, 10, s_84⟩
/-- _law_tape -/
def s_212 : List S := [.asg (.name 1) (.cst (.int 7)), .for (.name 2) .seq [(.var 0)] [.asg (.name 1) (.bin .Mod (.bcall .int [(.bin .Add (.bin .Mult (.var 1) (.cst (.int 31))) (.bcall .abs [(.bcall .int [(.var 2)])]))]) (.cst (.int 2147483647)))], .ret (.mls [(.bcall .list [(.var 0)]), (.cst (.int 0)), (.cst (.int 0)), (.var 1)])]
def fi212 : FnI := ⟨1, 3, s_212⟩
/-- _law_draw -/
def s_213 : List S := [.ite (.cmp .Eq (.idx (.var 0) (.cst (.int 2))) (.cst (.int 0))) [.asg (.name 2) (.idx (.var 0) (.cst (.int 1))), .asg (.name 3) (.cst (.int 0)), .ite (.cmp .Lt (.var 2) (.bcall .len [(.idx (.var 0) (.cst (.int 0)))])) [.asg (.name 3) (.bcall .abs [(.bcall .int [(.idx (.idx (.var 0) (.cst (.int 0))) (.var 2))])])] [.setI (.var 0) (.cst (.int 3)) (.bin .Mod (.bcall .int [(.bin .Add (.bin .Add (.bin .Mult (.idx (.var 0) (.cst (.int 3))) (.cst (.int 48271))) (.var 2)) (.cst (.int 1)))]) (.cst (.int 2147483647))), .asg (.name 3) (.idx (.var 0) (.cst (.int 3)))], .setI (.var 0) (.cst (.int 1)) (.bin .Add (.var 2) (.cst (.int 1))), .ite (.cmp .Lt (.var 3) (.bin .Pow (.cst (.int 10)) (.cst (.int 18)))) [.asg (.name 3) (.bin .Mod (.bcall .int [(.bin .Add (.bin .Add (.bin .Mult (.var 3) (.cst (.int 48271))) (.bin .Mult (.var 2) (.cst (.int 69621)))) (.cst (.int 5)))]) (.cst (.int 2147483647))), .asg (.name 3) (.bin .Mod (.bcall .int [(.bin .Mult (.var 3) (.cst (.int 69621)))]) (.cst (.int 2147483629))), .ret (.bin .Mod (.bcall .int [(.var 3)]) (.bcall .max2 [(.var 1), (.cst (.int 1))]))] [], .setI (.var 0) (.cst (.int 2)) (.var 3)] [], .asg (.name 3) (.idx (.var 0) (.cst (.int 2))), .setI (.var 0) (.cst (.int 2)) (.bin .FloorDiv (.var 3) (.bcall .max2 [(.var 1), (.cst (.int 2))])), .ret (.bin .Mod (.bcall .int [(.var 3)]) (.bcall .max2 [(.var 1), (.cst (.int 1))]))]
def fi213 : FnI := ⟨2, 4, s_213⟩
/-- _law_fresh -/
def s_214 : List S := [.own 2 (.lst []), .for (.name 3) .range [(.var 1)] [.ite (.cmp .Eq (.call 213 [(.var 0), (.cst (.int 4))] [] []) (.cst (.int 0))) [.meth .append (.var 2) [(.idx (.lst [(.cst (.int 0)), (.cst (.int 1)), (.cst (.int 32768)), (.cst (.int 65535))]) (.call 213 [(.var 0), (.cst (.int 4))] [] []))]] [.meth .append (.var 2) [(.call 213 [(.var 0), (.cst (.int 65536))] [] [])]]], .ret (.bcall .tuple [(.var 2)])]
def fi214 : FnI := ⟨2, 4, s_214⟩
/-- _law_same -/
def s_215 : List S := [.ite (.bcall (.isinst .tuple) [(.var 1)]) [.ite (.bool false [(.nt (.bcall (.isinst .tuple) [(.var 0)])), (.cmp .NotEq (.bcall .len [(.var 0)]) (.bcall .len [(.var 1)]))]) [.ret (.cst (.bl false))] [], .for (.name 2) .range [(.bcall .len [(.var 1)])] [.ite (.nt (.call 215 [(.idx (.var 0) (.var 2)), (.idx (.var 1) (.var 2))] [] [])) [.ret (.cst (.bl false))] []], .ret (.cst (.bl true))] [], .ite (.cmp .Is (.var 1) (.cst (.non))) [.ret (.cmp .Is (.var 0) (.cst (.non)))] [], .ite (.bcall (.isinst .bool) [(.var 1)]) [.ret (.bool true [(.bcall (.isinst .bool) [(.var 0)]), (.cmp .Eq (.var 0) (.var 1))])] [], .ite (.bcall (.isinst .int) [(.var 1)]) [.ret (.bool true [(.bcall (.isinst .int) [(.var 0)]), (.nt (.bcall (.isinst .bool) [(.var 0)])), (.cmp .Eq (.var 0) (.var 1))])] [], .ret (.bool true [(.bcall (.isinst .str) [(.var 0)]), (.cmp .Eq (.var 0) (.var 1))])]
def fi215 : FnI := ⟨2, 3, s_215⟩
/-- _law_obtained -/
def s_216 : List S := [.asg (.name 5) (.lc (.idx (.var 6) (.cst (.int 0))) (.name 6) .seq [(.idx (.var 0) (.cst (.int 0)))] [] [6]), .ite (.cmp .In (.var 2) (.var 5)) [.ite (.bool true [(.var 3), (.cmp .Eq (.idx (.idx (.idx (.var 0) (.cst (.int 0))) (.mcl .index (.var 5) [(.var 2)])) (.cst (.int 1))) (.cst (.str (K 4))))]) [.ret (.tup [(.cst (.str (K 50))), (.var 1), (.var 2), (.cst (.bl true))])] [], .ret (.cst (.non))] [], .asg (.name 7) (.bin .Add (.var 5) (.lc (.idx (.var 8) (.cst (.int 0))) (.name 8) .seq [(.idx (.var 0) (.cst (.int 1)))] [(.cmp .NotIn (.idx (.var 8) (.cst (.int 0))) (.var 5))] [8])), .ite (.cmp .Lt (.bcall .len [(.lc (.var 9) (.name 9) .seq [(.var 7)] [(.cmp .Eq (.bin .Mod (.bcall .int [(.var 9)]) (.idx (.var 4) (.cst (.int 4)))) (.bin .Mod (.bcall .int [(.var 2)]) (.idx (.var 4) (.cst (.int 4)))))] [9])]) (.idx (.var 4) (.cst (.int 5)))) [.ret (.tup [(.cst (.str (K 50))), (.var 1), (.var 2), (.var 3)])] [], .asg (.name 10) (.lc (.var 9) (.name 9) .seq [(.var 5)] [(.cmp .Eq (.bin .Mod (.bcall .int [(.var 9)]) (.idx (.var 4) (.cst (.int 4)))) (.bin .Mod (.bcall .int [(.var 2)]) (.idx (.var 4) (.cst (.int 4)))))] [9]), .ite (.var 10) [.ret (.tup [(.cst (.str (K 56))), (.var 1), (.idx (.var 10) (.cst (.int 0)))])] [], .ret (.cst (.non))]
def fi216 : FnI := ⟨5, 11, s_216⟩
/-- _law_config -/
def s_217 : List S := [.asg (.name 2) (.idx (.lst [(.cst (.str (K 0))), (.cst (.str (K 1))), (.cst (.str (K 163))), (.cst (.str (K 40)))]) (.call 213 [(.var 0), (.cst (.int 4))] [] [])), .ret (.mk 0 [(.var 2)] [3, 4, 5, 6, 7] [(.idx (.var 1) (.cst (.int 3))), (.idx (.var 1) (.cst (.int 4))), (.idx (.var 1) (.cst (.int 5))), (.idx (.var 1) (.cst (.int 6))), (.idx (.var 1) (.cst (.int 7)))])]
def fi217 : FnI := ⟨2, 3, s_217⟩
/-- _law_action -/
def s_218 : List S := [.asg (.name 3) (.call 213 [(.var 0), (.cst (.int 16))] [] []), .asg (.name 4) (.call 213 [(.var 0), (.bcall .len [(.idx (.var 1) (.cst (.int 0)))])] [] []), .asg (.name 5) (.idx (.idx (.idx (.var 1) (.cst (.int 0))) (.var 4)) (.cst (.int 0))), .ite (.bool true [(.cmp .Lt (.var 3) (.cst (.int 8))), (.idx (.var 1) (.cst (.int 3)))]) [.ret (.tup [(.cst (.str (K 49))), (.call 213 [(.var 0), (.bcall .len [(.idx (.var 1) (.cst (.int 3)))])] [] [])])] [], .ite (.bool true [(.cmp .Lt (.var 3) (.cst (.int 10))), (.var 5)]) [.ret (.tup [(.cst (.str (K 56))), (.var 4), (.idx (.idx (.var 5) (.call 213 [(.var 0), (.bcall .len [(.var 5)])] [] [])) (.cst (.int 0)))])] [], .ret (.tup [(.cst (.str (K 50))), (.var 4), (.call 213 [(.var 0), (.var 2)] [] []), (.cmp .Eq (.call 213 [(.var 0), (.cst (.int 2))] [] []) (.cst (.int 1)))])]
def fi218 : FnI := ⟨3, 6, s_218⟩
/-- law -/
def s_219 : List S := [.asg (.name 1) (.call 212 [(.var 0)] [] []), .asg (.name 2) (.idx (.lst [(.cst (.int 1)), (.cst (.int 2)), (.cst (.int 2)), (.cst (.int 3)), (.cst (.int 3)), (.cst (.int 4))]) (.call 213 [(.var 1), (.cst (.int 6))] [] [])), .asg (.name 3) (.bin .Add (.cst (.int 1)) (.idx (.lst [(.call 213 [(.var 1), (.cst (.int 4))] [] []), (.call 213 [(.var 1), (.cst (.int 16))] [] [])]) (.call 213 [(.var 1), (.cst (.int 2))] [] []))), .asg (.name 4) (.idx (.lst [(.cst (.int 1)), (.cst (.int 1)), (.cst (.int 2)), (.bin .Add (.cst (.int 1)) (.call 213 [(.var 1), (.cst (.int 16))] [] []))]) (.call 213 [(.var 1), (.cst (.int 4))] [] [])), .asg (.name 5) (.idx (.lst [(.cst (.int 1)), (.cst (.int 2)), (.cst (.int 4))]) (.call 213 [(.var 1), (.cst (.int 3))] [] [])), .asg (.name 6) (.cmp .Eq (.call 213 [(.var 1), (.cst (.int 2))] [] []) (.cst (.int 1))), .asg (.name 7) (.tup [(.cst (.str (K 64))), (.cst (.int 0)), (.cst (.int 0)), (.var 4), (.bin .Add (.cst (.int 1)) (.call 213 [(.var 1), (.cst (.int 2))] [] [])), (.var 5), (.bin .Add (.cst (.int 1)) (.call 213 [(.var 1), (.cst (.int 2))] [] [])), (.var 6)]), .asg (.name 8) (.call 217 [(.var 1), (.var 7)] [] []), .asg (.name 9) (.bin .FloorDiv (.bin .Sub (.bin .Add (.var 3) (.var 4)) (.cst (.int 1))) (.var 4)), .asg (.name 10) (.tup [(.tup [(.tup [(.cst (.str (K 38)))])]), (.bin .Mult (.tup [(.cst (.int 0))]) (.var 2)), (.call 214 [(.var 1), (.var 3)] [] [])]), .asg (.name 11) (.call 73 [(.var 10), (.var 8)] [] []), .for (.name 12) .range [(.call 213 [(.var 1), (.cst (.int 46))] [] [])] [.asg (.name 13) (.call 80 [(.var 10), (.var 8), (.var 11), (.call 218 [(.var 1), (.idx (.var 11) (.cst (.int 2))), (.var 9)] [] [])] [] []), .ite (.cmp .IsNot (.var 13) (.cst (.non))) [.asg (.name 11) (.var 13)] []], .for (.name 14) .range [(.var 2)] [.for (.name 15) .range [(.var 9)] [.for (.name 16) .seq [(.lst [(.cst (.bl false)), (.cst (.bl true))])] [.asg (.name 17) (.call 216 [(.idx (.idx (.idx (.var 11) (.cst (.int 2))) (.cst (.int 0))) (.var 14)), (.var 14), (.var 15), (.var 16), (.var 7)] [] []), .ite (.nt (.call 215 [(.call 84 [(.var 8), (.var 11), (.var 14), (.var 15), (.var 16)] [] []), (.var 17)] [] [])) [.ret (.cst (.bl false))] []]]], .ret (.cst (.bl true))]
def fi219 : FnI := ⟨1, 18, s_219⟩
/-- none -/
def fiX : FnI := ⟨0, 0, []⟩
def bf0 : List FnI := [fi0, fi1, fi2, fi3, fi4, fi5, fi6, fi7, fi8, fi9, fi10, fi11, fi12, fi13, fi14, fi15, fi16, fi17, fi18, fi19, fi20, fi21, fi22, fi23, fi24, fi25, fi26, fi27, fi28, fi29, fi30, fi31, fi32, fi33, fi34, fi35, fi36, fi37, fi38, fi39]
def bf1 : List FnI := [fi40, fi41, fi42, fi43, fi44, fi45, fi46, fi47, fi48, fi49, fi50, fi51, fi52, fi53, fi54, fi55, fi56, fi57, fi58, fi59, fi60, fi61, fi62, fi63, fi64, fi65, fi66, fi67, fi68, fi69, fiX, fiX, fiX, fi73, fi74, fi75, fi76, fi77, fi78, fi79]
def bf2 : List FnI := [fi80, fiX, fiX, fiX, fi84, fiX, fiX, fiX, fiX, fiX, fiX, fiX, fiX, fiX, fiX, fiX, fiX, fiX, fiX, fiX, fiX, fiX, fiX, fiX, fiX, fiX, fiX, fiX, fiX, fiX, fiX, fiX, fiX, fiX, fiX, fiX, fiX, fiX, fiX, fiX]
def bf3 : List FnI := [fiX, fiX, fiX, fiX, fiX, fiX, fiX, fiX, fiX, fiX, fiX, fiX, fiX, fiX, fiX, fiX, fiX, fiX, fiX, fiX, fiX, fiX, fiX, fiX, fiX, fiX, fiX, fiX, fiX, fiX, fiX, fiX, fiX, fiX, fiX, fiX, fiX, fiX, fiX, fiX]
def bf4 : List FnI := [fiX, fiX, fiX, fiX, fiX, fiX, fiX, fiX, fiX, fiX, fiX, fiX, fiX, fiX, fiX, fiX, fiX, fiX, fiX, fiX, fiX, fiX, fiX, fiX, fiX, fiX, fiX, fiX, fiX, fiX, fiX, fiX, fiX, fiX, fiX, fiX, fiX, fiX, fiX, fiX]
def bf5 : List FnI := [fiX, fiX, fiX, fiX, fiX, fiX, fiX, fiX, fiX, fiX, fiX, fiX, fi212, fi213, fi214, fi215, fi216, fi217, fi218, fi219, fiX, fiX, fiX, fiX, fiX, fiX, fiX, fiX, fiX, fiX, fiX, fiX, fiX, fiX, fiX, fiX, fiX, fiX, fiX, fiX]
def bf6 : List FnI := [fiX, fiX, fiX, fiX, fiX, fiX, fiX, fiX, fiX, fiX, fiX, fiX, fiX, fiX, fiX, fiX, fiX, fiX, fiX, fiX, fiX, fiX, fiX, fiX, fiX, fiX, fiX, fiX, fiX, fiX, fiX, fiX, fiX, fiX, fiX, fiX, fiX, fiX, fiX, fiX]
def bf7 : List FnI := [fiX, fiX, fiX, fiX, fiX, fiX, fiX, fiX, fiX, fiX, fiX, fiX, fiX, fiX, fiX, fiX, fiX, fiX, fiX, fiX, fiX, fiX, fiX, fiX, fiX, fiX, fiX, fiX, fiX, fiX, fiX, fiX, fiX, fiX, fiX, fiX, fiX, fiX, fiX, fiX]
def bf8 : List FnI := [fiX, fiX, fiX, fiX, fiX, fiX, fiX, fiX, fiX, fiX, fiX, fiX, fiX, fiX, fiX, fiX, fiX, fiX, fiX, fiX, fiX, fiX, fiX, fiX, fiX, fiX, fiX, fiX, fiX, fiX, fiX, fiX, fiX, fiX, fiX, fiX, fiX, fiX, fiX, fiX]
def bf9 : List FnI := [fiX, fiX, fiX, fiX, fiX, fiX, fiX, fiX, fiX, fiX, fiX, fiX, fiX, fiX, fiX, fiX, fiX, fiX, fiX, fiX, fiX, fiX, fiX, fiX, fiX, fiX, fiX, fiX, fiX, fiX, fiX, fiX, fiX, fiX, fiX, fiX, fiX, fiX, fiX, fiX]
def bf10 : List FnI := [fiX, fiX, fiX, fiX, fiX, fiX, fiX, fiX, fiX, fiX, fiX, fiX, fiX, fiX, fiX, fiX, fiX, fiX, fiX, fiX, fiX, fiX, fiX, fiX, fiX, fiX, fiX, fiX, fiX, fiX, fiX, fiX, fiX, fiX, fiX, fiX, fiX, fiX, fiX, fiX]
def bf11 : List FnI := [fiX, fiX, fiX, fiX, fiX, fiX, fiX, fiX, fiX, fiX, fiX, fiX, fiX, fiX, fiX, fiX, fiX, fiX, fiX, fiX, fiX, fiX, fiX, fiX, fiX, fiX, fiX, fiX, fiX, fiX, fiX, fiX, fiX, fiX, fiX, fiX, fiX, fiX, fiX, fiX]
def bf12 : List FnI := [fiX, fiX, fiX, fiX, fiX, fiX, fiX, fiX, fiX, fiX, fiX, fiX, fiX, fiX, fiX, fiX, fiX, fiX, fiX, fiX, fiX, fiX, fiX, fiX, fiX, fiX, fiX, fiX, fiX, fiX, fiX, fiX, fiX, fiX, fiX, fiX, fiX, fiX, fiX, fiX]
def bf13 : List FnI := [fiX, fiX]
def bfns : List FnI := bf0 ++ bf1 ++ bf2 ++ bf3 ++ bf4 ++ bf5 ++ bf6 ++ bf7 ++ bf8 ++ bf9 ++ bf10 ++ bf11 ++ bf12 ++ bf13
def bcs : List D := [.tup [.str (K 35)], .tup [.tup [], .tup [], .tup []], .int 65536, .int 32768, .tup [.str (K 22), .str (K 23), .str (K 24), .str (K 25), .str (K 26), .str (K 27), .str (K 28), .str (K 110)], .tup [.int 0, .bl false], .int (-1), .tup [.int 0, .int 0, .int 0, .int 0, .int 0, .int 0, .int 0, .int 0], .tup [.str (K 111), .str (K 42), .str (K 43), .str (K 44)], .non, .str (K 112), .tup [.str (K 90), .str (K 36)], .tup [.non, .tup [], .non], .tup [.str (K 9), .str (K 8), .str (K 10)], .tup [.str (K 13), .str (K 12), .str (K 15), .str (K 47)], .tup [.str (K 50), .str (K 56), .str (K 49)], .tup [.str (K 52), .str (K 53), .str (K 29), .str (K 55)], .str (K 113), .str (K 114), .str (K 115), .str (K 116), .int 60, .int 24, .int 16, .int 4, .int 12, .int 65535, .int 24, .tup [.str (K 117), .str (K 118), .str (K 119), .str (K 120), .str (K 121), .str (K 122), .str (K 123), .str (K 124)], .tup [.str (K 90), .str (K 37), .str (K 36), .str (K 88)], .tup [.str (K 17), .str (K 18), .str (K 19), .str (K 20), .str (K 21), .str (K 125)], .tup [.str (K 106), .str (K 107), .str (K 126)], .non, .non, .int 0, .int 1, .int 2, .int 2000, .tup [.int 0, .bl true], .tup [.tup [.str (K 35), .str (K 37)], .tup [.str (K 35), .str (K 36)]], .tup [.str (K 108), .str (K 90), .str (K 37), .str (K 36)], .int 3, .tup [.str (K 35), .str (K 88)], .tup [.str (K 29), .str (K 111), .str (K 42), .str (K 43)], .tup [.str (K 29), .str (K 89), .str (K 43)], .tup [.str (K 29), .str (K 89), .str (K 43)]]
def bcls : List (List Str) := [[(K 39), (K 34), (K 41), (K 3), (K 2), (K 7), (K 6), (K 45)], [], [], [], [], [], [], [], [], []]
def bcdf : List (List (Option D)) := [[none, some (.int 4), some (.int 2), some (.int 1), some (.int 1), some (.int 4), some (.int 1), some (.bl true)], [], [], [], [], [], [], [], [], []]
def bdfl : List (List (Option D)) := bfns.map fun f => List.replicate f.np none
def gg : Gs where
  cs := bcs
  cls := bcls
  dfl := bdfl
  cdf := bcdf
  W := 1000000
def pp : Prog := ⟨gg, bfns⟩
end Ev
set_option Elab.async false
set_option linter.all false
set_option maxRecDepth 100000
set_option maxHeartbeats 400000
/-! Ev26: the tables of constants by the base's numbers. -/
namespace Ev
open PySem PySem.Spec PyProof.Rows L2
def csOf (l : List (Str × Nat)) : List (Str × D) := l.map fun p => (p.1, bcs.getD p.2 .non)
theorem cs_ok2 {B : Bs} {csJ : List (Str × Nat)} {tb : Tb} {h : Heap} (X : B.T.K.In h) (G : h.Ns mainGlobals B.mg) (h1 : tb.cs = csJ) (h2 : B.T.G.cs = bcs) (h3 : (csJ.all fun p => decide (p.2 < bcs.length)) = true) (hc : ∀ p ∈ csOf csJ, conB B.T.K p = true) :
    ∀ x j, tb.cs.lookup x = some j → ∃ u v d, B.mg x = some u ∧ RelV v u ∧ B.T.G.cs[j]? = some d ∧ ∀ W, Rep B.T W d v := by
  intro x j e
  have hm := PySem.mem_of_lookup e
  rw [h1] at hm
  have hl : j < bcs.length := by simpa using List.all_eq_true.mp h3 _ hm
  obtain ⟨u, v, g1, g2, g3⟩ := conB_ok X G (hc (x, bcs.getD j .non) (List.mem_map.mpr ⟨(x, j), hm, rfl⟩))
  refine ⟨u, v, _, g1, g2, ?_, g3⟩
  rw [h2, List.getElem?_eq_getElem hl]
  simp [List.getD_eq_getElem?_getD, hl]
end Ev

set_option Elab.async false
set_option linter.all false
set_option maxRecDepth 100000
set_option maxHeartbeats 4000000
namespace K75
open PySem PySem.Spec PyProof.Rows L2 Ev

def top (i : Nat) : Stmt := PySem.Challenge.pw_litmuscore_k75_obtain.main.body.getD i (.Pass ⟨0, 0, 0, 0⟩)
def csJ : List (Str × Nat) := [("FENCE", 0), ("EMPTY_CACHE", 1), ("MODULUS", 2), ("SIGN", 3), ("OPERATIONS", 4), ("PLAIN", 5), ("NO_LINK", 6), ("START_REGISTERS", 7), ("ATOMIC", 8), ("OUTSIDE", 10), ("ORDERING", 11), ("START_HOME", 12), ("WAITS_FOR_SERVICE", 13), ("TO_CACHES", 14), ("SYSTEM_KINDS", 15), ("INDEXED_KINDS", 16)]
def csN : List (Str × D) := csOf csJ
def tb : Tb where
  cs := csJ
  fn := [(Str.ofString "waiting", 0), (Str.ofString "newest_word", 1), (Str.ofString "with_fence", 2), (Str.ofString "may_leave", 3), (Str.ofString "without", 4), (Str.ofString "entry_of", 5), (Str.ofString "without_line", 6), (Str.ofString "with_entry", 33), (Str.ofString "with_entry_caches", 7), (Str.ofString "occupied_ways", 8), (Str.ofString "read_word", 9), (Str.ofString "can_write", 10), (Str.ofString "write_word", 11), (Str.ofString "request_line", 12), (Str.ofString "give_up_line", 13), (Str.ofString "after_recall", 14), (Str.ofString "cache_receives", 15), (Str.ofString "signed", 16), (Str.ofString "compare", 17), (Str.ofString "operate", 18), (Str.ofString "start_state", 19), (Str.ofString "instruction_at", 20), (Str.ofString "uses_memory", 21), (Str.ofString "address_from", 22), (Str.ofString "operand_registers", 23), (Str.ofString "result_of", 24), (Str.ofString "address_after", 25), (Str.ofString "with_register", 26), (Str.ofString "start_pipeline", 27), (Str.ofString "is_predictable", 28), (Str.ofString "predicted", 29), (Str.ofString "has_result", 30), (Str.ofString "destination", 31), (Str.ofString "operand", 32), (Str.ofString "with_entry_pipelines", 33), (Str.ofString "fetch", 34), (Str.ofString "is_executed", 35), (Str.ofString "execute", 36), (Str.ofString "is_unresolved", 37), (Str.ofString "resolve", 38), (Str.ofString "buffered_word", 39), (Str.ofString "is_placed_load", 40), (Str.ofString "readable_word", 41), (Str.ofString "holds_back", 42), (Str.ofString "load", 43), (Str.ofString "visible_word", 44), (Str.ofString "committed", 45), (Str.ofString "commit_halt", 46), (Str.ofString "commit_fence", 47), (Str.ofString "commit_plain", 48), (Str.ofString "commit_load", 49), (Str.ofString "commit_store", 50), (Str.ofString "after_atomic", 51), (Str.ofString "commit_swap", 52), (Str.ofString "commit_linked", 53), (Str.ofString "commit_conditional", 54), (Str.ofString "commit_access", 55), (Str.ofString "commit", 56), (Str.ofString "drain", 57), (Str.ofString "keep_reservation", 58), (Str.ofString "can_receive", 59), (Str.ofString "begun", 60), (Str.ofString "invalidated", 61), (Str.ofString "returned", 62), (Str.ofString "grant_if_ready", 63), (Str.ofString "home_receives", 64), (Str.ofString "replaced", 74), (Str.ofString "replaced_network", 65), (Str.ofString "start_system", 66), (Str.ofString "deliverable", 67), (Str.ofString "delivered", 68), (Str.ofString "next_system", 69), (Str.ofString "start_machine", 73), (Str.ofString "replaced_machine", 74), (Str.ofString "with_core", 75), (Str.ofString "after_inner", 76), (Str.ofString "after_commit", 77), (Str.ofString "after_drain", 78), (Str.ofString "changed_machine", 79), (Str.ofString "after_action", 80), (Str.ofString "obtain", 84), (Str.ofString "_law_tape", 212), (Str.ofString "_law_draw", 213), (Str.ofString "_law_fresh", 214), (Str.ofString "_law_same", 215), (Str.ofString "_law_obtained", 216), (Str.ofString "_law_config", 217), (Str.ofString "_law_action", 218), (Str.ofString "law", 219)]
  ar := pp.fns.map (·.np)
  rc := [("Config", 0, 1, ["line_words", "sets", "ways", "requests", "exclusive_state"], [3, 4, 5, 6, 7])]
def e0 : Ent := ⟨"waiting", 0, ⟨("waiting", none), "waiting", "waiting", defArgs (top 2), defBody (top 2), defScope (top 2), [], []⟩, ["buffer", "entry"], ["buffer"]⟩
def e1 : Ent := ⟨"newest_word", 1, ⟨("newest_word", none), "newest_word", "newest_word", defArgs (top 3), defBody (top 3), defScope (top 3), [], []⟩, ["buffer", "address", "entry"], ["buffer", "address"]⟩
def e2 : Ent := ⟨"with_fence", 2, ⟨("with_fence", none), "with_fence", "with_fence", defArgs (top 4), defBody (top 4), defScope (top 4), [], []⟩, ["buffer"], ["buffer"]⟩
def e3 : Ent := ⟨"may_leave", 3, ⟨("may_leave", none), "may_leave", "may_leave", defArgs (top 5), defBody (top 5), defScope (top 5), [], []⟩, ["order", "buffer", "index", "entry"], ["order", "buffer", "index"]⟩
def e4 : Ent := ⟨"without", 4, ⟨("without", none), "without", "without", defArgs (top 6), defBody (top 6), defScope (top 6), [], []⟩, ["buffer", "index", "left", "at"], ["buffer", "index"]⟩
def e5 : Ent := ⟨"entry_of", 5, ⟨("entry_of", none), "entry_of", "entry_of", defArgs (top 9), defBody (top 9), defScope (top 9), [], []⟩, ["entries", "line", "entry"], ["entries", "line"]⟩
def e6 : Ent := ⟨"without_line", 6, ⟨("without_line", none), "without_line", "without_line", defArgs (top 10), defBody (top 10), defScope (top 10), [], []⟩, ["entries", "line", "entry"], ["entries", "line"]⟩
def e7 : Ent := ⟨"with_entry", 33, ⟨("with_entry", none), "with_entry", "with_entry", defArgs (top 51), defBody (top 51), defScope (top 51), [], []⟩, ["pipeline", "index", "entry", "keep", "state", "entries", "buffer", "held", "steps", "younger"], ["pipeline", "index", "entry", "keep"]⟩
def e8 : Ent := ⟨"with_entry_caches", 7, ⟨("with_entry_caches", none), "with_entry", "with_entry", defArgs (top 11), defBody (top 11), defScope (top 11), [], []⟩, ["entries", "new", "entry"], ["entries", "new"]⟩
def e9 : Ent := ⟨"occupied_ways", 8, ⟨("occupied_ways", none), "occupied_ways", "occupied_ways", defArgs (top 13), defBody (top 13), defScope (top 13), [], []⟩, ["config", "cache", "line", "group", "present", "entry", "coming"], ["config", "cache", "line"]⟩
def e10 : Ent := ⟨"read_word", 9, ⟨("read_word", none), "read_word", "read_word", defArgs (top 14), defBody (top 14), defScope (top 14), [], []⟩, ["config", "cache", "address", "entry"], ["config", "cache", "address"]⟩
def e11 : Ent := ⟨"can_write", 10, ⟨("can_write", none), "can_write", "can_write", defArgs (top 15), defBody (top 15), defScope (top 15), [], []⟩, ["config", "cache", "address", "entry"], ["config", "cache", "address"]⟩
def e12 : Ent := ⟨"write_word", 11, ⟨("write_word", none), "write_word", "write_word", defArgs (top 16), defBody (top 16), defScope (top 16), [], []⟩, ["config", "cache", "address", "word", "line", "place", "words", "changed"], ["config", "cache", "address", "word"]⟩
def e13 : Ent := ⟨"request_line", 12, ⟨("request_line", none), "request_line", "request_line", defArgs (top 17), defBody (top 17), defScope (top 17), [], []⟩, ["config", "cache", "core", "line", "exclusive", "lines", "requested", "leaving", "entry", "kind"], ["config", "cache", "core", "line", "exclusive"]⟩
def e14 : Ent := ⟨"give_up_line", 13, ⟨("give_up_line", none), "give_up_line", "give_up_line", defArgs (top 18), defBody (top 18), defScope (top 18), [], []⟩, ["cache", "core", "line", "lines", "requested", "leaving", "entry", "kept", "dirty", "left"], ["cache", "core", "line"]⟩
def e15 : Ent := ⟨"after_recall", 14, ⟨("after_recall", none), "after_recall", "after_recall", defArgs (top 19), defBody (top 19), defScope (top 19), [], []⟩, ["cache", "message", "lines", "requested", "leaving", "core", "line", "keep", "entry", "left", "rest", "kept"], ["cache", "message"]⟩
def e16 : Ent := ⟨"cache_receives", 15, ⟨("cache_receives", none), "cache_receives", "cache_receives", defArgs (top 20), defBody (top 20), defScope (top 20), [], []⟩, ["cache", "message", "lines", "requested", "leaving", "kind", "core", "line", "present"], ["cache", "message"]⟩
def e17 : Ent := ⟨"signed", 16, ⟨("signed", none), "signed", "signed", defArgs (top 25), defBody (top 25), defScope (top 25), [], []⟩, ["word"], ["word"]⟩
def e18 : Ent := ⟨"compare", 17, ⟨("compare", none), "compare", "compare", defArgs (top 26), defBody (top 26), defScope (top 26), [], []⟩, ["relation", "left", "right"], ["relation", "left", "right"]⟩
def e19 : Ent := ⟨"operate", 18, ⟨("operate", none), "operate", "operate", defArgs (top 27), defBody (top 27), defScope (top 27), [], []⟩, ["operation", "left", "right"], ["operation", "left", "right"]⟩
def e20 : Ent := ⟨"start_state", 19, ⟨("start_state", none), "start_state", "start_state", defArgs (top 34), defBody (top 34), defScope (top 34), [], []⟩, ["program", "core"], ["program", "core"]⟩
def e21 : Ent := ⟨"instruction_at", 20, ⟨("instruction_at", none), "instruction_at", "instruction_at", defArgs (top 35), defBody (top 35), defScope (top 35), [], []⟩, ["program", "pc"], ["program", "pc"]⟩
def e22 : Ent := ⟨"uses_memory", 21, ⟨("uses_memory", none), "uses_memory", "uses_memory", defArgs (top 36), defBody (top 36), defScope (top 36), [], []⟩, ["instruction"], ["instruction"]⟩
def e23 : Ent := ⟨"address_from", 22, ⟨("address_from", none), "address_from", "address_from", defArgs (top 37), defBody (top 37), defScope (top 37), [], []⟩, ["instruction", "base"], ["instruction", "base"]⟩
def e24 : Ent := ⟨"operand_registers", 23, ⟨("operand_registers", none), "operand_registers", "operand_registers", defArgs (top 38), defBody (top 38), defScope (top 38), [], []⟩, ["instruction"], ["instruction"]⟩
def e25 : Ent := ⟨"result_of", 24, ⟨("result_of", none), "result_of", "result_of", defArgs (top 39), defBody (top 39), defScope (top 39), [], []⟩, ["instruction", "a", "b"], ["instruction", "a", "b"]⟩
def e26 : Ent := ⟨"address_after", 25, ⟨("address_after", none), "address_after", "address_after", defArgs (top 40), defBody (top 40), defScope (top 40), [], []⟩, ["instruction", "pc", "a", "b"], ["instruction", "pc", "a", "b"]⟩
def e27 : Ent := ⟨"with_register", 26, ⟨("with_register", none), "with_register", "with_register", defArgs (top 41), defBody (top 41), defScope (top 41), [], []⟩, ["registers", "rd", "word"], ["registers", "rd", "word"]⟩
def e28 : Ent := ⟨"start_pipeline", 27, ⟨("start_pipeline", none), "start_pipeline", "start_pipeline", defArgs (top 45), defBody (top 45), defScope (top 45), [], []⟩, ["program", "core"], ["program", "core"]⟩
def e29 : Ent := ⟨"is_predictable", 28, ⟨("is_predictable", none), "is_predictable", "is_predictable", defArgs (top 46), defBody (top 46), defScope (top 46), [], []⟩, ["instruction"], ["instruction"]⟩
def e30 : Ent := ⟨"predicted", 29, ⟨("predicted", none), "predicted", "predicted", defArgs (top 47), defBody (top 47), defScope (top 47), [], []⟩, ["program", "pc", "successor", "value", "instruction"], ["program", "pc", "successor", "value"]⟩
def e31 : Ent := ⟨"has_result", 30, ⟨("has_result", none), "has_result", "has_result", defArgs (top 48), defBody (top 48), defScope (top 48), [], []⟩, ["instruction"], ["instruction"]⟩
def e32 : Ent := ⟨"destination", 31, ⟨("destination", none), "destination", "destination", defArgs (top 49), defBody (top 49), defScope (top 49), [], []⟩, ["instruction"], ["instruction"]⟩
def e33 : Ent := ⟨"operand", 32, ⟨("operand", none), "operand", "operand", defArgs (top 50), defBody (top 50), defScope (top 50), [], []⟩, ["pipeline", "index", "number", "pc", "instruction", "successor", "guess", "result", "place", "time"], ["pipeline", "index", "number"]⟩
def e34 : Ent := ⟨"with_entry_pipelines", 33, ⟨("with_entry_pipelines", none), "with_entry", "with_entry", defArgs (top 51), defBody (top 51), defScope (top 51), [], []⟩, ["pipeline", "index", "entry", "keep", "state", "entries", "buffer", "held", "steps", "younger"], ["pipeline", "index", "entry", "keep"]⟩
def e35 : Ent := ⟨"fetch", 34, ⟨("fetch", none), "fetch", "fetch", defArgs (top 53), defBody (top 53), defScope (top 53), [], []⟩, ["program", "config", "pipeline", "successor", "value", "state", "entries", "buffer", "held", "steps", "pc", "after", "guess", "entry"], ["program", "config", "pipeline", "successor", "value"]⟩
def e36 : Ent := ⟨"is_executed", 35, ⟨("is_executed", none), "is_executed", "is_executed", defArgs (top 54), defBody (top 54), defScope (top 54), [], []⟩, ["instruction"], ["instruction"]⟩
def e37 : Ent := ⟨"execute", 36, ⟨("execute", none), "execute", "execute", defArgs (top 55), defBody (top 55), defScope (top 55), [], []⟩, ["pipeline", "index", "pc", "instruction", "successor", "guess", "result", "place", "time", "first", "second", "a", "b", "after"], ["pipeline", "index"]⟩
def e38 : Ent := ⟨"is_unresolved", 37, ⟨("is_unresolved", none), "is_unresolved", "is_unresolved", defArgs (top 56), defBody (top 56), defScope (top 56), [], []⟩, ["entry"], ["entry"]⟩
def e39 : Ent := ⟨"resolve", 38, ⟨("resolve", none), "resolve", "resolve", defArgs (top 57), defBody (top 57), defScope (top 57), [], []⟩, ["program", "pipeline", "index", "entries", "entry", "pc", "instruction", "successor", "guess", "result", "place", "time", "base"], ["program", "pipeline", "index"]⟩
def e40 : Ent := ⟨"buffered_word", 39, ⟨("buffered_word", none), "buffered_word", "buffered_word", defArgs (top 58), defBody (top 58), defScope (top 58), [], []⟩, ["config", "pipeline", "cache", "address", "word"], ["config", "pipeline", "cache", "address"]⟩
def e41 : Ent := ⟨"is_placed_load", 40, ⟨("is_placed_load", none), "is_placed_load", "is_placed_load", defArgs (top 59), defBody (top 59), defScope (top 59), [], []⟩, ["pipeline", "index", "instruction", "place"], ["pipeline", "index"]⟩
def e42 : Ent := ⟨"readable_word", 41, ⟨("readable_word", none), "readable_word", "readable_word", defArgs (top 60), defBody (top 60), defScope (top 60), [], []⟩, ["config", "pipeline", "cache", "index", "address", "at", "instruction", "place"], ["config", "pipeline", "cache", "index"]⟩
def e43 : Ent := ⟨"holds_back", 42, ⟨("holds_back", none), "holds_back", "holds_back", defArgs (top 61), defBody (top 61), defScope (top 61), [], []⟩, ["entry", "address", "pc", "instruction", "successor", "guess", "result", "place", "time"], ["entry", "address"]⟩
def e44 : Ent := ⟨"load", 43, ⟨("load", none), "load", "load", defArgs (top 62), defBody (top 62), defScope (top 62), [], []⟩, ["config", "pipeline", "cache", "index", "time", "pc", "instruction", "successor", "guess", "result", "place", "_", "entry", "word"], ["config", "pipeline", "cache", "index", "time"]⟩
def e45 : Ent := ⟨"visible_word", 44, ⟨("visible_word", none), "visible_word", "visible_word", defArgs (top 64), defBody (top 64), defScope (top 64), [], []⟩, ["config", "pipeline", "cache", "address"], ["config", "pipeline", "cache", "address"]⟩
def e46 : Ent := ⟨"committed", 45, ⟨("committed", none), "committed", "committed", defArgs (top 65), defBody (top 65), defScope (top 65), [], []⟩, ["pipeline", "pc", "number", "word", "state", "entries", "buffer", "held", "steps", "after"], ["pipeline", "pc", "number", "word"]⟩
def e47 : Ent := ⟨"commit_halt", 46, ⟨("commit_halt", none), "commit_halt", "commit_halt", defArgs (top 66), defBody (top 66), defScope (top 66), [], []⟩, ["pipeline", "state", "entries", "buffer", "held", "steps"], ["pipeline"]⟩
def e48 : Ent := ⟨"commit_fence", 47, ⟨("commit_fence", none), "commit_fence", "commit_fence", defArgs (top 67), defBody (top 67), defScope (top 67), [], []⟩, ["pipeline", "fence", "state", "entries", "buffer", "held", "steps"], ["pipeline", "fence"]⟩
def e49 : Ent := ⟨"commit_plain", 48, ⟨("commit_plain", none), "commit_plain", "commit_plain", defArgs (top 68), defBody (top 68), defScope (top 68), [], []⟩, ["pipeline", "pc", "instruction", "successor", "guess", "result", "place", "time"], ["pipeline"]⟩
def e50 : Ent := ⟨"commit_load", 49, ⟨("commit_load", none), "commit_load", "commit_load", defArgs (top 69), defBody (top 69), defScope (top 69), [], []⟩, ["config", "pipeline", "cache", "time", "state", "entries", "buffer", "held", "steps", "pc", "instruction", "successor", "guess", "result", "place", "load_time", "after", "word"], ["config", "pipeline", "cache", "time"]⟩
def e51 : Ent := ⟨"commit_store", 50, ⟨("commit_store", none), "commit_store", "commit_store", defArgs (top 70), defBody (top 70), defScope (top 70), [], []⟩, ["config", "pipeline", "cache", "instruction", "place", "store", "state", "entries", "buffer", "held", "steps"], ["config", "pipeline", "cache"]⟩
def e52 : Ent := ⟨"after_atomic", 51, ⟨("after_atomic", none), "after_atomic", "after_atomic", defArgs (top 71), defBody (top 71), defScope (top 71), [], []⟩, ["pipeline", "word", "link", "held", "instruction", "guess", "state", "entries", "buffer", "_", "steps"], ["pipeline", "word", "link", "held"]⟩
def e53 : Ent := ⟨"commit_swap", 52, ⟨("commit_swap", none), "commit_swap", "commit_swap", defArgs (top 72), defBody (top 72), defScope (top 72), [], []⟩, ["config", "pipeline", "cache", "time", "instruction", "place", "word", "stored", "after"], ["config", "pipeline", "cache", "time"]⟩
def e54 : Ent := ⟨"commit_linked", 53, ⟨("commit_linked", none), "commit_linked", "commit_linked", defArgs (top 73), defBody (top 73), defScope (top 73), [], []⟩, ["config", "pipeline", "cache", "time", "place", "word"], ["config", "pipeline", "cache", "time"]⟩
def e55 : Ent := ⟨"commit_conditional", 54, ⟨("commit_conditional", none), "commit_conditional", "commit_conditional", defArgs (top 74), defBody (top 74), defScope (top 74), [], []⟩, ["config", "pipeline", "cache", "time", "instruction", "place", "changed"], ["config", "pipeline", "cache", "time"]⟩
def e56 : Ent := ⟨"commit_access", 55, ⟨("commit_access", none), "commit_access", "commit_access", defArgs (top 75), defBody (top 75), defScope (top 75), [], []⟩, ["config", "pipeline", "cache", "time", "kind", "place"], ["config", "pipeline", "cache", "time"]⟩
def e57 : Ent := ⟨"commit", 56, ⟨("commit", none), "commit", "commit", defArgs (top 76), defBody (top 76), defScope (top 76), [], []⟩, ["config", "pipeline", "cache", "time", "entries", "instruction", "after"], ["config", "pipeline", "cache", "time"]⟩
def e58 : Ent := ⟨"drain", 57, ⟨("drain", none), "drain", "drain", defArgs (top 77), defBody (top 77), defScope (top 77), [], []⟩, ["config", "pipeline", "cache", "index", "state", "entries", "buffer", "held", "steps", "kind", "address", "word", "number", "changed"], ["config", "pipeline", "cache", "index"]⟩
def e59 : Ent := ⟨"keep_reservation", 58, ⟨("keep_reservation", none), "keep_reservation", "keep_reservation", defArgs (top 78), defBody (top 78), defScope (top 78), [], []⟩, ["config", "pipeline", "cache", "state", "entries", "buffer", "held", "steps"], ["config", "pipeline", "cache"]⟩
def e60 : Ent := ⟨"can_receive", 59, ⟨("can_receive", none), "can_receive", "can_receive", defArgs (top 82), defBody (top 82), defScope (top 82), [], []⟩, ["home", "message"], ["home", "message"]⟩
def e61 : Ent := ⟨"begun", 60, ⟨("begun", none), "begun", "begun", defArgs (top 83), defBody (top 83), defScope (top 83), [], []⟩, ["home", "words", "message", "owner", "sharers", "core", "line", "exclusive", "serving", "awaited", "sharer", "messages"], ["home", "words", "message"]⟩
def e62 : Ent := ⟨"invalidated", 61, ⟨("invalidated", none), "invalidated", "invalidated", defArgs (top 84), defBody (top 84), defScope (top 84), [], []⟩, ["home", "sharer", "owner", "sharers", "serving", "core", "exclusive", "awaited", "recalled", "words", "granted", "other"], ["home", "sharer"]⟩
def e63 : Ent := ⟨"returned", 62, ⟨("returned", none), "returned", "returned", defArgs (top 85), defBody (top 85), defScope (top 85), [], []⟩, ["home", "message", "serving", "core", "exclusive", "awaited", "granted", "sharers"], ["home", "message"]⟩
def e64 : Ent := ⟨"grant_if_ready", 63, ⟨("grant_if_ready", none), "grant_if_ready", "grant_if_ready", defArgs (top 86), defBody (top 86), defScope (top 86), [], []⟩, ["config", "home", "line", "owner", "sharers", "serving", "core", "exclusive", "awaited", "recalled", "words", "granted", "state"], ["config", "home", "line"]⟩
def e65 : Ent := ⟨"home_receives", 64, ⟨("home_receives", none), "home_receives", "home_receives", defArgs (top 87), defBody (top 87), defScope (top 87), [], []⟩, ["config", "home", "words", "message", "owner", "sharers", "serving", "kind", "core", "line", "messages", "grants"], ["config", "home", "words", "message"]⟩
def e66 : Ent := ⟨"replaced", 74, ⟨("replaced", none), "replaced", "replaced", defArgs (top 100), defBody (top 100), defScope (top 100), [], []⟩, ["parts", "index", "part"], ["parts", "index", "part"]⟩
def e67 : Ent := ⟨"replaced_network", 65, ⟨("replaced_network", none), "replaced", "replaced", defArgs (top 90), defBody (top 90), defScope (top 90), [], []⟩, ["parts", "index", "part"], ["parts", "index", "part"]⟩
def e68 : Ent := ⟨"start_system", 66, ⟨("start_system", none), "start_system", "start_system", defArgs (top 92), defBody (top 92), defScope (top 92), [], []⟩, ["program", "config", "memory", "many", "caches", "entry", "line"], ["program", "config"]⟩
def e69 : Ent := ⟨"deliverable", 67, ⟨("deliverable", none), "deliverable", "deliverable", defArgs (top 93), defBody (top 93), defScope (top 93), [], []⟩, ["system", "homes", "network", "found", "index", "message"], ["system"]⟩
def e70 : Ent := ⟨"delivered", 68, ⟨("delivered", none), "delivered", "delivered", defArgs (top 94), defBody (top 94), defScope (top 94), [], []⟩, ["config", "system", "index", "caches", "homes", "memory", "network", "message", "rest", "core", "line", "cache", "messages", "first", "words", "home"], ["config", "system", "index"]⟩
def e71 : Ent := ⟨"next_system", 69, ⟨("next_system", none), "next_system", "next_system", defArgs (top 95), defBody (top 95), defScope (top 95), [], []⟩, ["config", "system", "action", "caches", "homes", "memory", "network", "core", "line", "changed"], ["config", "system", "action"]⟩
def e72 : Ent := ⟨"start_machine", 73, ⟨("start_machine", none), "start_machine", "start_machine", defArgs (top 99), defBody (top 99), defScope (top 99), [], []⟩, ["program", "config", "cores", "pipelines", "core"], ["program", "config"]⟩
def e73 : Ent := ⟨"replaced_machine", 74, ⟨("replaced_machine", none), "replaced", "replaced", defArgs (top 100), defBody (top 100), defScope (top 100), [], []⟩, ["parts", "index", "part"], ["parts", "index", "part"]⟩
def e74 : Ent := ⟨"with_core", 75, ⟨("with_core", none), "with_core", "with_core", defArgs (top 102), defBody (top 102), defScope (top 102), [], []⟩, ["machine", "core", "pipeline", "cache", "time", "pipelines", "system", "choices", "marks", "caches", "homes", "memory", "network"], ["machine", "core", "pipeline", "cache"]⟩
def e75 : Ent := ⟨"after_inner", 76, ⟨("after_inner", none), "after_inner", "after_inner", defArgs (top 103), defBody (top 103), defScope (top 103), [], []⟩, ["program", "config", "machine", "action", "kind", "core", "pipeline", "cache"], ["program", "config", "machine", "action"]⟩
def e76 : Ent := ⟨"after_commit", 77, ⟨("after_commit", none), "after_commit", "after_commit", defArgs (top 104), defBody (top 104), defScope (top 104), [], []⟩, ["config", "machine", "core", "number", "taken", "pipeline", "cache", "choice", "mark", "time", "pipelines", "system", "choices", "marks"], ["config", "machine", "core"]⟩
def e77 : Ent := ⟨"after_drain", 78, ⟨("after_drain", none), "after_drain", "after_drain", defArgs (top 105), defBody (top 105), defScope (top 105), [], []⟩, ["config", "machine", "core", "index", "taken", "pipeline", "cache", "number", "time", "pipelines", "system", "choices", "marks"], ["config", "machine", "core", "index"]⟩
def e78 : Ent := ⟨"changed_machine", 79, ⟨("changed_machine", none), "changed_machine", "changed_machine", defArgs (top 106), defBody (top 106), defScope (top 106), [], []⟩, ["program", "config", "machine", "action", "time", "pipelines", "system", "choices", "marks"], ["program", "config", "machine", "action"]⟩
def e79 : Ent := ⟨"after_action", 80, ⟨("after_action", none), "after_action", "after_action", defArgs (top 107), defBody (top 107), defScope (top 107), [], []⟩, ["program", "config", "machine", "action", "changed", "time", "pipelines", "system", "choices", "marks", "kept", "pipeline", "cache"], ["program", "config", "machine", "action"]⟩
def e80 : Ent := ⟨"obtain", 84, ⟨("obtain", none), "obtain", "obtain", defArgs (top 109), defBody (top 109), defScope (top 109), [], []⟩, ["config", "machine", "core", "line", "exclusive", "cache", "entry", "other", "state", "words"], ["config", "machine", "core", "line", "exclusive"]⟩
def e81 : Ent := ⟨"_law_tape", 212, ⟨("_law_tape", none), "_law_tape", "_law_tape", defArgs (top 113), defBody (top 113), defScope (top 113), [], []⟩, ["_law_script", "_law_total", "_law_cell"], ["_law_script"]⟩
def e82 : Ent := ⟨"_law_draw", 213, ⟨("_law_draw", none), "_law_draw", "_law_draw", defArgs (top 114), defBody (top 114), defScope (top 114), [], []⟩, ["_law_tape_here", "_law_many", "_law_place", "_law_number"], ["_law_tape_here", "_law_many"]⟩
def e83 : Ent := ⟨"_law_fresh", 214, ⟨("_law_fresh", none), "_law_fresh", "_law_fresh", defArgs (top 115), defBody (top 115), defScope (top 115), [], []⟩, ["_law_tape_here", "_law_many", "_law_words", "_law_k"], ["_law_tape_here", "_law_many"]⟩
def e84 : Ent := ⟨"_law_same", 215, ⟨("_law_same", none), "_law_same", "_law_same", defArgs (top 116), defBody (top 116), defScope (top 116), [], []⟩, ["_law_actual", "_law_due", "_law_k"], ["_law_actual", "_law_due"]⟩
def e85 : Ent := ⟨"_law_obtained", 216, ⟨("_law_obtained", none), "_law_obtained", "_law_obtained", defArgs (top 117), defBody (top 117), defScope (top 117), [], []⟩, ["_law_cache", "_law_core", "_law_line", "_law_exclusive", "_law_has", "_law_present", "_law_entry", "_law_taken", "_law_pair", "_law_other", "_law_rivals"], ["_law_cache", "_law_core", "_law_line", "_law_exclusive", "_law_has"]⟩
def e86 : Ent := ⟨"_law_config", 217, ⟨("_law_config", none), "_law_config", "_law_config", defArgs (top 118), defBody (top 118), defScope (top 118), [], []⟩, ["_law_tape_here", "_law_has", "_law_order"], ["_law_tape_here", "_law_has"]⟩
def e87 : Ent := ⟨"_law_action", 218, ⟨("_law_action", none), "_law_action", "_law_action", defArgs (top 119), defBody (top 119), defScope (top 119), [], []⟩, ["_law_tape_here", "_law_system", "_law_lines", "_law_choice", "_law_core", "_law_present"], ["_law_tape_here", "_law_system", "_law_lines"]⟩
def e88 : Ent := ⟨"law", 219, ⟨("law", none), "law", "law", defArgs (top 120), defBody (top 120), defScope (top 120), [], []⟩, ["_law_script", "_law_tape_here", "_law_cores", "_law_size", "_law_width", "_law_many_ways", "_law_alone", "_law_has", "_law_config_here", "_law_lines", "_law_program", "_law_machine", "_law_k", "_law_told", "_law_core", "_law_line", "_law_exclusive", "_law_due"], ["_law_script"]⟩
theorem b0 : BindP e0.d.params e0.ps := fun _ _ _ _ _ _ _ _ _ _ us h => match us, h with | [_], _ => by kernel_rfl
theorem b1 : BindP e1.d.params e1.ps := fun _ _ _ _ _ _ _ _ _ _ us h => match us, h with | [_, _], _ => by kernel_rfl
theorem b2 : BindP e2.d.params e2.ps := fun _ _ _ _ _ _ _ _ _ _ us h => match us, h with | [_], _ => by kernel_rfl
theorem b3 : BindP e3.d.params e3.ps := fun _ _ _ _ _ _ _ _ _ _ us h => match us, h with | [_, _, _], _ => by kernel_rfl
theorem b4 : BindP e4.d.params e4.ps := fun _ _ _ _ _ _ _ _ _ _ us h => match us, h with | [_, _], _ => by kernel_rfl
theorem b5 : BindP e5.d.params e5.ps := fun _ _ _ _ _ _ _ _ _ _ us h => match us, h with | [_, _], _ => by kernel_rfl
theorem b6 : BindP e6.d.params e6.ps := fun _ _ _ _ _ _ _ _ _ _ us h => match us, h with | [_, _], _ => by kernel_rfl
theorem b7 : BindP e7.d.params e7.ps := fun _ _ _ _ _ _ _ _ _ _ us h => match us, h with | [_, _, _, _], _ => by kernel_rfl
theorem b8 : BindP e8.d.params e8.ps := fun _ _ _ _ _ _ _ _ _ _ us h => match us, h with | [_, _], _ => by kernel_rfl
theorem b9 : BindP e9.d.params e9.ps := fun _ _ _ _ _ _ _ _ _ _ us h => match us, h with | [_, _, _], _ => by kernel_rfl
theorem b10 : BindP e10.d.params e10.ps := fun _ _ _ _ _ _ _ _ _ _ us h => match us, h with | [_, _, _], _ => by kernel_rfl
theorem b11 : BindP e11.d.params e11.ps := fun _ _ _ _ _ _ _ _ _ _ us h => match us, h with | [_, _, _], _ => by kernel_rfl
theorem b12 : BindP e12.d.params e12.ps := fun _ _ _ _ _ _ _ _ _ _ us h => match us, h with | [_, _, _, _], _ => by kernel_rfl
theorem b13 : BindP e13.d.params e13.ps := fun _ _ _ _ _ _ _ _ _ _ us h => match us, h with | [_, _, _, _, _], _ => by kernel_rfl
theorem b14 : BindP e14.d.params e14.ps := fun _ _ _ _ _ _ _ _ _ _ us h => match us, h with | [_, _, _], _ => by kernel_rfl
theorem b15 : BindP e15.d.params e15.ps := fun _ _ _ _ _ _ _ _ _ _ us h => match us, h with | [_, _], _ => by kernel_rfl
theorem b16 : BindP e16.d.params e16.ps := fun _ _ _ _ _ _ _ _ _ _ us h => match us, h with | [_, _], _ => by kernel_rfl
theorem b17 : BindP e17.d.params e17.ps := fun _ _ _ _ _ _ _ _ _ _ us h => match us, h with | [_], _ => by kernel_rfl
theorem b18 : BindP e18.d.params e18.ps := fun _ _ _ _ _ _ _ _ _ _ us h => match us, h with | [_, _, _], _ => by kernel_rfl
theorem b19 : BindP e19.d.params e19.ps := fun _ _ _ _ _ _ _ _ _ _ us h => match us, h with | [_, _, _], _ => by kernel_rfl
theorem b20 : BindP e20.d.params e20.ps := fun _ _ _ _ _ _ _ _ _ _ us h => match us, h with | [_, _], _ => by kernel_rfl
theorem b21 : BindP e21.d.params e21.ps := fun _ _ _ _ _ _ _ _ _ _ us h => match us, h with | [_, _], _ => by kernel_rfl
theorem b22 : BindP e22.d.params e22.ps := fun _ _ _ _ _ _ _ _ _ _ us h => match us, h with | [_], _ => by kernel_rfl
theorem b23 : BindP e23.d.params e23.ps := fun _ _ _ _ _ _ _ _ _ _ us h => match us, h with | [_, _], _ => by kernel_rfl
theorem b24 : BindP e24.d.params e24.ps := fun _ _ _ _ _ _ _ _ _ _ us h => match us, h with | [_], _ => by kernel_rfl
theorem b25 : BindP e25.d.params e25.ps := fun _ _ _ _ _ _ _ _ _ _ us h => match us, h with | [_, _, _], _ => by kernel_rfl
theorem b26 : BindP e26.d.params e26.ps := fun _ _ _ _ _ _ _ _ _ _ us h => match us, h with | [_, _, _, _], _ => by kernel_rfl
theorem b27 : BindP e27.d.params e27.ps := fun _ _ _ _ _ _ _ _ _ _ us h => match us, h with | [_, _, _], _ => by kernel_rfl
theorem b28 : BindP e28.d.params e28.ps := fun _ _ _ _ _ _ _ _ _ _ us h => match us, h with | [_, _], _ => by kernel_rfl
theorem b29 : BindP e29.d.params e29.ps := fun _ _ _ _ _ _ _ _ _ _ us h => match us, h with | [_], _ => by kernel_rfl
theorem b30 : BindP e30.d.params e30.ps := fun _ _ _ _ _ _ _ _ _ _ us h => match us, h with | [_, _, _, _], _ => by kernel_rfl
theorem b31 : BindP e31.d.params e31.ps := fun _ _ _ _ _ _ _ _ _ _ us h => match us, h with | [_], _ => by kernel_rfl
theorem b32 : BindP e32.d.params e32.ps := fun _ _ _ _ _ _ _ _ _ _ us h => match us, h with | [_], _ => by kernel_rfl
theorem b33 : BindP e33.d.params e33.ps := fun _ _ _ _ _ _ _ _ _ _ us h => match us, h with | [_, _, _], _ => by kernel_rfl
theorem b34 : BindP e34.d.params e34.ps := fun _ _ _ _ _ _ _ _ _ _ us h => match us, h with | [_, _, _, _], _ => by kernel_rfl
theorem b35 : BindP e35.d.params e35.ps := fun _ _ _ _ _ _ _ _ _ _ us h => match us, h with | [_, _, _, _, _], _ => by kernel_rfl
theorem b36 : BindP e36.d.params e36.ps := fun _ _ _ _ _ _ _ _ _ _ us h => match us, h with | [_], _ => by kernel_rfl
theorem b37 : BindP e37.d.params e37.ps := fun _ _ _ _ _ _ _ _ _ _ us h => match us, h with | [_, _], _ => by kernel_rfl
theorem b38 : BindP e38.d.params e38.ps := fun _ _ _ _ _ _ _ _ _ _ us h => match us, h with | [_], _ => by kernel_rfl
theorem b39 : BindP e39.d.params e39.ps := fun _ _ _ _ _ _ _ _ _ _ us h => match us, h with | [_, _, _], _ => by kernel_rfl
theorem b40 : BindP e40.d.params e40.ps := fun _ _ _ _ _ _ _ _ _ _ us h => match us, h with | [_, _, _, _], _ => by kernel_rfl
theorem b41 : BindP e41.d.params e41.ps := fun _ _ _ _ _ _ _ _ _ _ us h => match us, h with | [_, _], _ => by kernel_rfl
theorem b42 : BindP e42.d.params e42.ps := fun _ _ _ _ _ _ _ _ _ _ us h => match us, h with | [_, _, _, _], _ => by kernel_rfl
theorem b43 : BindP e43.d.params e43.ps := fun _ _ _ _ _ _ _ _ _ _ us h => match us, h with | [_, _], _ => by kernel_rfl
theorem b44 : BindP e44.d.params e44.ps := fun _ _ _ _ _ _ _ _ _ _ us h => match us, h with | [_, _, _, _, _], _ => by kernel_rfl
theorem b45 : BindP e45.d.params e45.ps := fun _ _ _ _ _ _ _ _ _ _ us h => match us, h with | [_, _, _, _], _ => by kernel_rfl
theorem b46 : BindP e46.d.params e46.ps := fun _ _ _ _ _ _ _ _ _ _ us h => match us, h with | [_, _, _, _], _ => by kernel_rfl
theorem b47 : BindP e47.d.params e47.ps := fun _ _ _ _ _ _ _ _ _ _ us h => match us, h with | [_], _ => by kernel_rfl
theorem b48 : BindP e48.d.params e48.ps := fun _ _ _ _ _ _ _ _ _ _ us h => match us, h with | [_, _], _ => by kernel_rfl
theorem b49 : BindP e49.d.params e49.ps := fun _ _ _ _ _ _ _ _ _ _ us h => match us, h with | [_], _ => by kernel_rfl
theorem b50 : BindP e50.d.params e50.ps := fun _ _ _ _ _ _ _ _ _ _ us h => match us, h with | [_, _, _, _], _ => by kernel_rfl
theorem b51 : BindP e51.d.params e51.ps := fun _ _ _ _ _ _ _ _ _ _ us h => match us, h with | [_, _, _], _ => by kernel_rfl
theorem b52 : BindP e52.d.params e52.ps := fun _ _ _ _ _ _ _ _ _ _ us h => match us, h with | [_, _, _, _], _ => by kernel_rfl
theorem b53 : BindP e53.d.params e53.ps := fun _ _ _ _ _ _ _ _ _ _ us h => match us, h with | [_, _, _, _], _ => by kernel_rfl
theorem b54 : BindP e54.d.params e54.ps := fun _ _ _ _ _ _ _ _ _ _ us h => match us, h with | [_, _, _, _], _ => by kernel_rfl
theorem b55 : BindP e55.d.params e55.ps := fun _ _ _ _ _ _ _ _ _ _ us h => match us, h with | [_, _, _, _], _ => by kernel_rfl
theorem b56 : BindP e56.d.params e56.ps := fun _ _ _ _ _ _ _ _ _ _ us h => match us, h with | [_, _, _, _], _ => by kernel_rfl
theorem b57 : BindP e57.d.params e57.ps := fun _ _ _ _ _ _ _ _ _ _ us h => match us, h with | [_, _, _, _], _ => by kernel_rfl
theorem b58 : BindP e58.d.params e58.ps := fun _ _ _ _ _ _ _ _ _ _ us h => match us, h with | [_, _, _, _], _ => by kernel_rfl
theorem b59 : BindP e59.d.params e59.ps := fun _ _ _ _ _ _ _ _ _ _ us h => match us, h with | [_, _, _], _ => by kernel_rfl
theorem b60 : BindP e60.d.params e60.ps := fun _ _ _ _ _ _ _ _ _ _ us h => match us, h with | [_, _], _ => by kernel_rfl
theorem b61 : BindP e61.d.params e61.ps := fun _ _ _ _ _ _ _ _ _ _ us h => match us, h with | [_, _, _], _ => by kernel_rfl
theorem b62 : BindP e62.d.params e62.ps := fun _ _ _ _ _ _ _ _ _ _ us h => match us, h with | [_, _], _ => by kernel_rfl
theorem b63 : BindP e63.d.params e63.ps := fun _ _ _ _ _ _ _ _ _ _ us h => match us, h with | [_, _], _ => by kernel_rfl
theorem b64 : BindP e64.d.params e64.ps := fun _ _ _ _ _ _ _ _ _ _ us h => match us, h with | [_, _, _], _ => by kernel_rfl
theorem b65 : BindP e65.d.params e65.ps := fun _ _ _ _ _ _ _ _ _ _ us h => match us, h with | [_, _, _, _], _ => by kernel_rfl
theorem b66 : BindP e66.d.params e66.ps := fun _ _ _ _ _ _ _ _ _ _ us h => match us, h with | [_, _, _], _ => by kernel_rfl
theorem b67 : BindP e67.d.params e67.ps := fun _ _ _ _ _ _ _ _ _ _ us h => match us, h with | [_, _, _], _ => by kernel_rfl
theorem b68 : BindP e68.d.params e68.ps := fun _ _ _ _ _ _ _ _ _ _ us h => match us, h with | [_, _], _ => by kernel_rfl
theorem b69 : BindP e69.d.params e69.ps := fun _ _ _ _ _ _ _ _ _ _ us h => match us, h with | [_], _ => by kernel_rfl
theorem b70 : BindP e70.d.params e70.ps := fun _ _ _ _ _ _ _ _ _ _ us h => match us, h with | [_, _, _], _ => by kernel_rfl
theorem b71 : BindP e71.d.params e71.ps := fun _ _ _ _ _ _ _ _ _ _ us h => match us, h with | [_, _, _], _ => by kernel_rfl
theorem b72 : BindP e72.d.params e72.ps := fun _ _ _ _ _ _ _ _ _ _ us h => match us, h with | [_, _], _ => by kernel_rfl
theorem b73 : BindP e73.d.params e73.ps := fun _ _ _ _ _ _ _ _ _ _ us h => match us, h with | [_, _, _], _ => by kernel_rfl
theorem b74 : BindP e74.d.params e74.ps := fun _ _ _ _ _ _ _ _ _ _ us h => match us, h with | [_, _, _, _], _ => by kernel_rfl
theorem b75 : BindP e75.d.params e75.ps := fun _ _ _ _ _ _ _ _ _ _ us h => match us, h with | [_, _, _, _], _ => by kernel_rfl
theorem b76 : BindP e76.d.params e76.ps := fun _ _ _ _ _ _ _ _ _ _ us h => match us, h with | [_, _, _], _ => by kernel_rfl
theorem b77 : BindP e77.d.params e77.ps := fun _ _ _ _ _ _ _ _ _ _ us h => match us, h with | [_, _, _, _], _ => by kernel_rfl
theorem b78 : BindP e78.d.params e78.ps := fun _ _ _ _ _ _ _ _ _ _ us h => match us, h with | [_, _, _, _], _ => by kernel_rfl
theorem b79 : BindP e79.d.params e79.ps := fun _ _ _ _ _ _ _ _ _ _ us h => match us, h with | [_, _, _, _], _ => by kernel_rfl
theorem b80 : BindP e80.d.params e80.ps := fun _ _ _ _ _ _ _ _ _ _ us h => match us, h with | [_, _, _, _, _], _ => by kernel_rfl
theorem b81 : BindP e81.d.params e81.ps := fun _ _ _ _ _ _ _ _ _ _ us h => match us, h with | [_], _ => by kernel_rfl
theorem b82 : BindP e82.d.params e82.ps := fun _ _ _ _ _ _ _ _ _ _ us h => match us, h with | [_, _], _ => by kernel_rfl
theorem b83 : BindP e83.d.params e83.ps := fun _ _ _ _ _ _ _ _ _ _ us h => match us, h with | [_, _], _ => by kernel_rfl
theorem b84 : BindP e84.d.params e84.ps := fun _ _ _ _ _ _ _ _ _ _ us h => match us, h with | [_, _], _ => by kernel_rfl
theorem b85 : BindP e85.d.params e85.ps := fun _ _ _ _ _ _ _ _ _ _ us h => match us, h with | [_, _, _, _, _], _ => by kernel_rfl
theorem b86 : BindP e86.d.params e86.ps := fun _ _ _ _ _ _ _ _ _ _ us h => match us, h with | [_, _], _ => by kernel_rfl
theorem b87 : BindP e87.d.params e87.ps := fun _ _ _ _ _ _ _ _ _ _ us h => match us, h with | [_, _, _], _ => by kernel_rfl
theorem b88 : BindP e88.d.params e88.ps := fun _ _ _ _ _ _ _ _ _ _ us h => match us, h with | [_], _ => by kernel_rfl
theorem c0 : entC tb pp e0 = true := by decide +kernel
theorem c1 : entC tb pp e1 = true := by decide +kernel
theorem c2 : entC tb pp e2 = true := by decide +kernel
theorem c3 : entC tb pp e3 = true := by decide +kernel
theorem c4 : entC tb pp e4 = true := by decide +kernel
theorem c5 : entC tb pp e5 = true := by decide +kernel
theorem c6 : entC tb pp e6 = true := by decide +kernel
theorem c7 : entC tb pp e7 = true := by decide +kernel
theorem c8 : entC tb pp e8 = true := by decide +kernel
theorem c9 : entC tb pp e9 = true := by decide +kernel
theorem c10 : entC tb pp e10 = true := by decide +kernel
theorem c11 : entC tb pp e11 = true := by decide +kernel
theorem c12 : entC tb pp e12 = true := by decide +kernel
theorem c13 : entC tb pp e13 = true := by decide +kernel
theorem c14 : entC tb pp e14 = true := by decide +kernel
theorem c15 : entC tb pp e15 = true := by decide +kernel
theorem c16 : entC tb pp e16 = true := by decide +kernel
theorem c17 : entC tb pp e17 = true := by decide +kernel
theorem c18 : entC tb pp e18 = true := by decide +kernel
theorem c19 : entC tb pp e19 = true := by decide +kernel
theorem c20 : entC tb pp e20 = true := by decide +kernel
theorem c21 : entC tb pp e21 = true := by decide +kernel
theorem c22 : entC tb pp e22 = true := by decide +kernel
theorem c23 : entC tb pp e23 = true := by decide +kernel
theorem c24 : entC tb pp e24 = true := by decide +kernel
theorem c25 : entC tb pp e25 = true := by decide +kernel
theorem c26 : entC tb pp e26 = true := by decide +kernel
theorem c27 : entC tb pp e27 = true := by decide +kernel
theorem c28 : entC tb pp e28 = true := by decide +kernel
theorem c29 : entC tb pp e29 = true := by decide +kernel
theorem c30 : entC tb pp e30 = true := by decide +kernel
theorem c31 : entC tb pp e31 = true := by decide +kernel
theorem c32 : entC tb pp e32 = true := by decide +kernel
theorem c33 : entC tb pp e33 = true := by decide +kernel
theorem c34 : entC tb pp e34 = true := by decide +kernel
theorem c35 : entC tb pp e35 = true := by decide +kernel
theorem c36 : entC tb pp e36 = true := by decide +kernel
theorem c37 : entC tb pp e37 = true := by decide +kernel
theorem c38 : entC tb pp e38 = true := by decide +kernel
theorem c39 : entC tb pp e39 = true := by decide +kernel
theorem c40 : entC tb pp e40 = true := by decide +kernel
theorem c41 : entC tb pp e41 = true := by decide +kernel
theorem c42 : entC tb pp e42 = true := by decide +kernel
theorem c43 : entC tb pp e43 = true := by decide +kernel
theorem c44 : entC tb pp e44 = true := by decide +kernel
theorem c45 : entC tb pp e45 = true := by decide +kernel
theorem c46 : entC tb pp e46 = true := by decide +kernel
theorem c47 : entC tb pp e47 = true := by decide +kernel
theorem c48 : entC tb pp e48 = true := by decide +kernel
theorem c49 : entC tb pp e49 = true := by decide +kernel
theorem c50 : entC tb pp e50 = true := by decide +kernel
theorem c51 : entC tb pp e51 = true := by decide +kernel
theorem c52 : entC tb pp e52 = true := by decide +kernel
theorem c53 : entC tb pp e53 = true := by decide +kernel
theorem c54 : entC tb pp e54 = true := by decide +kernel
theorem c55 : entC tb pp e55 = true := by decide +kernel
theorem c56 : entC tb pp e56 = true := by decide +kernel
theorem c57 : entC tb pp e57 = true := by decide +kernel
theorem c58 : entC tb pp e58 = true := by decide +kernel
theorem c59 : entC tb pp e59 = true := by decide +kernel
theorem c60 : entC tb pp e60 = true := by decide +kernel
theorem c61 : entC tb pp e61 = true := by decide +kernel
theorem c62 : entC tb pp e62 = true := by decide +kernel
theorem c63 : entC tb pp e63 = true := by decide +kernel
theorem c64 : entC tb pp e64 = true := by decide +kernel
theorem c65 : entC tb pp e65 = true := by decide +kernel
theorem c66 : entC tb pp e66 = true := by decide +kernel
theorem c67 : entC tb pp e67 = true := by decide +kernel
theorem c68 : entC tb pp e68 = true := by decide +kernel
theorem c69 : entC tb pp e69 = true := by decide +kernel
theorem c70 : entC tb pp e70 = true := by decide +kernel
theorem c71 : entC tb pp e71 = true := by decide +kernel
theorem c72 : entC tb pp e72 = true := by decide +kernel
theorem c73 : entC tb pp e73 = true := by decide +kernel
theorem c74 : entC tb pp e74 = true := by decide +kernel
theorem c75 : entC tb pp e75 = true := by decide +kernel
theorem c76 : entC tb pp e76 = true := by decide +kernel
theorem c77 : entC tb pp e77 = true := by decide +kernel
theorem c78 : entC tb pp e78 = true := by decide +kernel
theorem c79 : entC tb pp e79 = true := by decide +kernel
theorem c80 : entC tb pp e80 = true := by decide +kernel
theorem c81 : entC tb pp e81 = true := by decide +kernel
theorem c82 : entC tb pp e82 = true := by decide +kernel
theorem c83 : entC tb pp e83 = true := by decide +kernel
theorem c84 : entC tb pp e84 = true := by decide +kernel
theorem c85 : entC tb pp e85 = true := by decide +kernel
theorem c86 : entC tb pp e86 = true := by decide +kernel
theorem c87 : entC tb pp e87 = true := by decide +kernel
theorem c88 : entC tb pp e88 = true := by decide +kernel
end K75

set_option Elab.async false
set_option linter.all false
set_option maxRecDepth 100000
set_option maxHeartbeats 0
namespace K75
open PySem PySem.Spec PyProof.Rows L2 Ev
def ents : List Ent := [e0, e1, e2, e3, e4, e5, e6, e7, e8, e9, e10, e11, e12, e13, e14, e15, e16, e17, e18, e19, e20, e21, e22, e23, e24, e25, e26, e27, e28, e29, e30, e31, e32, e33, e34, e35, e36, e37, e38, e39, e40, e41, e42, e43, e44, e45, e46, e47, e48, e49, e50, e51, e52, e53, e54, e55, e56, e57, e58, e59, e60, e61, e62, e63, e64, e65, e66, e67, e68, e69, e70, e71, e72, e73, e74, e75, e76, e77, e78, e79, e80, e81, e82, e83, e84, e85, e86, e87, e88]
def meth (i j : Nat) : Stmt := match top i with
  | .ClassDef _ _ _ body _ _ _ _ _ _ _ => body.getD j (.Pass ⟨0, 0, 0, 0⟩)
  | _ => .Pass ⟨0, 0, 0, 0⟩
def i0 : He.DefD := ⟨("Config", some "__init__"), "__init__", "Config.__init__", defArgs (meth 111 0), defBody (meth 111 0), defScope (meth 111 0), [], [("reorder_buffer", .int (4)), ("store_buffer", .int (2)), ("line_words", .int (1)), ("sets", .int (1)), ("ways", .int (4)), ("requests", .int (1)), ("exclusive_state", .bl true)]⟩
def fn : List He.DefD := ents.map (·.d) ++ [i0]
def fa : List He.Fa := (ents.map fun e => .glo e.x) ++ (isNames.map He.Fa.free) ++ [.glo "Config", .cls "Config", .mkr "Config"] ++ ((gg.cls.getD 0 []).map fun f => He.Fa.noat "Config" f)
def loose0 : List PySem.Str := ["FENCE", "waiting", "newest_word", "with_fence", "may_leave", "without", "EMPTY_CACHE", "entry_of", "without_line", "with_entry", "with_entry_caches", "occupied_ways", "read_word", "can_write", "write_word", "request_line", "give_up_line", "after_recall", "cache_receives", "MODULUS", "SIGN", "OPERATIONS", "signed", "compare", "operate", "PLAIN", "NO_LINK", "START_REGISTERS", "ATOMIC", "MEMORY"]
def loose1 : List PySem.Str := ["start_state", "instruction_at", "uses_memory", "address_from", "operand_registers", "result_of", "address_after", "with_register", "OUTSIDE", "ORDERING", "start_pipeline", "is_predictable", "predicted", "has_result", "destination", "operand", "with_entry_pipelines", "fetch", "is_executed", "execute", "is_unresolved", "resolve", "buffered_word", "is_placed_load", "readable_word", "holds_back", "load", "visible_word", "committed", "commit_halt"]
def loose2 : List PySem.Str := ["commit_fence", "commit_plain", "commit_load", "commit_store", "after_atomic", "commit_swap", "commit_linked", "commit_conditional", "commit_access", "commit", "drain", "keep_reservation", "START_HOME", "WAITS_FOR_SERVICE", "can_receive", "begun", "invalidated", "returned", "grant_if_ready", "home_receives", "TO_CACHES", "replaced", "replaced_network", "start_system", "deliverable", "delivered", "next_system", "SYSTEM_KINDS", "INDEXED_KINDS", "start_machine"]
def loose3 : List PySem.Str := ["replaced_machine", "with_core", "after_inner", "after_commit", "after_drain", "changed_machine", "after_action", "obtain", "Config", "_law_tape", "_law_draw", "_law_fresh", "_law_same", "_law_obtained", "_law_config", "_law_action"]
def loose : List PySem.Str := loose0 ++ loose1 ++ loose2 ++ loose3
def o3 (w : World) : Obj := ⟨.type "dict", none, .dict #[de w (Str.ofString "__name__") 165 (.str (Str.ofString "law_litmuscore_k75_obtain") 1270), de w (Str.ofString "__doc__") 166 (.none), de w (Str.ofString "__package__") 167 (.none), de w (Str.ofString "__loader__") 168 (.builtin "__main__.__loader__#opaque"), de w (Str.ofString "__spec__") 169 (.none), de w (Str.ofString "__annotations__") 170 (.ref 6), de w (Str.ofString "__builtins__") 171 (.ref 4), de w (Str.ofString "__file__") 173 (.str (Str.ofString "/claim/cut.py") 172), de w (Str.ofString "__cached__") 174 (.none), de w (Str.ofString "FENCE") 190 (.ref 15), de w (Str.ofString "waiting") 196 (.ref 20), de w (Str.ofString "newest_word") 205 (.ref 27), de w (Str.ofString "with_fence") 212 (.ref 34), de w (Str.ofString "may_leave") 222 (.ref 41), de w (Str.ofString "without") 232 (.ref 48), de w (Str.ofString "EMPTY_CACHE") 235 (.ref 52), de w (Str.ofString "entry_of") 244 (.ref 59), de w (Str.ofString "without_line") 250 (.ref 64), de w (Str.ofString "with_entry") 256 (.ref 255), de w (Str.ofString "with_entry_caches") 257 (.ref 69), de w (Str.ofString "occupied_ways") 263 (.ref 74), de w (Str.ofString "read_word") 273 (.ref 81), de w (Str.ofString "can_write") 283 (.ref 88), de w (Str.ofString "write_word") 297 (.ref 95), de w (Str.ofString "request_line") 313 (.ref 102), de w (Str.ofString "give_up_line") 329 (.ref 109), de w (Str.ofString "after_recall") 347 (.ref 116), de w (Str.ofString "cache_receives") 362 (.ref 123), de w (Str.ofString "MODULUS") 366 (.int (65536) 365), de w (Str.ofString "SIGN") 368 (.int (32768) 367), de w (Str.ofString "OPERATIONS") 377 (.ref 124), de w (Str.ofString "signed") 384 (.ref 131), de w (Str.ofString "compare") 393 (.ref 138), de w (Str.ofString "operate") 402 (.ref 145), de w (Str.ofString "PLAIN") 406 (.ref 146), de w (Str.ofString "NO_LINK") 409 (.int (-1) 408), de w (Str.ofString "START_REGISTERS") 418 (.ref 147), de w (Str.ofString "ATOMIC") 423 (.ref 148), de w (Str.ofString "MEMORY") 436 (.ref 149), de w (Str.ofString "start_state") 444 (.ref 156), de w (Str.ofString "instruction_at") 452 (.ref 163), de w (Str.ofString "uses_memory") 459 (.ref 170), de w (Str.ofString "address_from") 467 (.ref 177), de w (Str.ofString "operand_registers") 474 (.ref 184), de w (Str.ofString "result_of") 483 (.ref 191), de w (Str.ofString "address_after") 493 (.ref 198), de w (Str.ofString "with_register") 502 (.ref 205), de w (Str.ofString "OUTSIDE") 506 (.str (Str.ofString "outside") 505), de w (Str.ofString "ORDERING") 509 (.ref 206), de w (Str.ofString "start_pipeline") 517 (.ref 213), de w (Str.ofString "is_predictable") 524 (.ref 220), de w (Str.ofString "predicted") 535 (.ref 227), de w (Str.ofString "has_result") 542 (.ref 234), de w (Str.ofString "destination") 549 (.ref 241), de w (Str.ofString "operand") 565 (.ref 248), de w (Str.ofString "with_entry_pipelines") 582 (.ref 255), de w (Str.ofString "fetch") 602 (.ref 262), de w (Str.ofString "is_executed") 609 (.ref 269), de w (Str.ofString "execute") 629 (.ref 276), de w (Str.ofString "is_unresolved") 636 (.ref 283), de w (Str.ofString "resolve") 642 (.ref 288), de w (Str.ofString "buffered_word") 653 (.ref 295), de w (Str.ofString "is_placed_load") 663 (.ref 302), de w (Str.ofString "readable_word") 677 (.ref 309), de w (Str.ofString "holds_back") 692 (.ref 316), de w (Str.ofString "load") 698 (.ref 321), de w (Str.ofString "visible_word") 710 (.ref 328), de w (Str.ofString "committed") 726 (.ref 335), de w (Str.ofString "commit_halt") 738 (.ref 342), de w (Str.ofString "commit_fence") 751 (.ref 349), de w (Str.ofString "commit_plain") 765 (.ref 356), de w (Str.ofString "commit_load") 789 (.ref 363), de w (Str.ofString "commit_store") 806 (.ref 370), de w (Str.ofString "after_atomic") 823 (.ref 377), de w (Str.ofString "commit_swap") 838 (.ref 384), de w (Str.ofString "commit_linked") 850 (.ref 391), de w (Str.ofString "commit_conditional") 863 (.ref 398), de w (Str.ofString "commit_access") 875 (.ref 405), de w (Str.ofString "commit") 888 (.ref 412), de w (Str.ofString "drain") 908 (.ref 419), de w (Str.ofString "keep_reservation") 922 (.ref 426), de w (Str.ofString "START_HOME") 925 (.ref 428), de w (Str.ofString "WAITS_FOR_SERVICE") 929 (.ref 429), de w (Str.ofString "can_receive") 937 (.ref 436), de w (Str.ofString "begun") 943 (.ref 441), de w (Str.ofString "invalidated") 949 (.ref 446), de w (Str.ofString "returned") 963 (.ref 453), de w (Str.ofString "grant_if_ready") 982 (.ref 460), de w (Str.ofString "home_receives") 1000 (.ref 467), de w (Str.ofString "TO_CACHES") 1007 (.ref 468), de w (Str.ofString "replaced") 1016 (.ref 515), de w (Str.ofString "replaced_network") 1017 (.ref 475), de w (Str.ofString "start_system") 1023 (.ref 480), de w (Str.ofString "deliverable") 1035 (.ref 487), de w (Str.ofString "delivered") 1057 (.ref 494), de w (Str.ofString "next_system") 1073 (.ref 501), de w (Str.ofString "SYSTEM_KINDS") 1079 (.ref 502), de w (Str.ofString "INDEXED_KINDS") 1084 (.ref 503), de w (Str.ofString "start_machine") 1090 (.ref 508), de w (Str.ofString "replaced_machine") 1100 (.ref 515), de w (Str.ofString "with_core") 1119 (.ref 522), de w (Str.ofString "after_inner") 1133 (.ref 529), de w (Str.ofString "after_commit") 1153 (.ref 536), de w (Str.ofString "after_drain") 1172 (.ref 543), de w (Str.ofString "changed_machine") 1187 (.ref 550), de w (Str.ofString "after_action") 1193 (.ref 555), de w (Str.ofString "obtain") 1211 (.ref 562), de w (Str.ofString "Config") 1269 (.ref 580), de w (Str.ofString "_law_tape") 1280 (.ref 591), de w (Str.ofString "_law_draw") 1290 (.ref 598), de w (Str.ofString "_law_fresh") 1300 (.ref 605), de w (Str.ofString "_law_same") 1309 (.ref 612), de w (Str.ofString "_law_obtained") 1315 (.ref 617), de w (Str.ofString "_law_config") 1324 (.ref 624), de w (Str.ofString "_law_action") 1336 (.ref 631), de w (Str.ofString "law") 1360 (.ref 638)] 116, #[]⟩
def o20 (w : World) : Obj := ⟨.type "function", none, .func ⟨(Str.ofString "waiting"), (Str.ofString "waiting"), defArgs (top 2), .stmts (defBody (top 2)), defScope (top 2), 3, [], .none, .none, .none, .str (Str.ofString "litmuscore.buffers") 187, none, .ref 19, .none, 0⟩, #[]⟩
def o19 (w : World) : Obj := ⟨.type "code", none, .fields #[.str (Str.ofString "waiting") 191, .str (Str.ofString "waiting") 192, .str (Str.ofString "/claim/cut.py") 193, .int (3) 0, .int (1) 0, .int (0) 0, .int (0) 0, .int (3) 0, .ref 16, .bool true, .int (181) 0, .ref 17, .none, .none, .none, .ref 18, .int (194) 0, .int (3) 0, .str (Str.ofString "/claim/cut.py") 195], #[]⟩
def o27 (w : World) : Obj := ⟨.type "function", none, .func ⟨(Str.ofString "newest_word"), (Str.ofString "newest_word"), defArgs (top 3), .stmts (defBody (top 3)), defScope (top 3), 3, [], .none, .none, .none, .str (Str.ofString "litmuscore.buffers") 187, none, .ref 26, .none, 0⟩, #[]⟩
def o26 (w : World) : Obj := ⟨.type "code", none, .fields #[.str (Str.ofString "newest_word") 197, .str (Str.ofString "newest_word") 198, .str (Str.ofString "/claim/cut.py") 199, .int (5) 0, .int (2) 0, .int (0) 0, .int (0) 0, .int (3) 0, .ref 21, .bool true, .int (181) 0, .ref 22, .none, .ref 23, .ref 24, .ref 25, .int (203) 0, .int (5) 0, .str (Str.ofString "/claim/cut.py") 204], #[]⟩
def o34 (w : World) : Obj := ⟨.type "function", none, .func ⟨(Str.ofString "with_fence"), (Str.ofString "with_fence"), defArgs (top 4), .stmts (defBody (top 4)), defScope (top 4), 3, [], .none, .none, .none, .str (Str.ofString "litmuscore.buffers") 187, none, .ref 33, .none, 0⟩, #[]⟩
def o33 (w : World) : Obj := ⟨.type "code", none, .fields #[.str (Str.ofString "with_fence") 206, .str (Str.ofString "with_fence") 207, .str (Str.ofString "/claim/cut.py") 208, .int (10) 0, .int (1) 0, .int (0) 0, .int (0) 0, .int (3) 0, .ref 28, .bool true, .int (181) 0, .ref 29, .none, .ref 30, .ref 31, .ref 32, .int (210) 0, .int (10) 0, .str (Str.ofString "/claim/cut.py") 211], #[]⟩
def o41 (w : World) : Obj := ⟨.type "function", none, .func ⟨(Str.ofString "may_leave"), (Str.ofString "may_leave"), defArgs (top 5), .stmts (defBody (top 5)), defScope (top 5), 3, [], .none, .none, .none, .str (Str.ofString "litmuscore.buffers") 187, none, .ref 40, .none, 0⟩, #[]⟩
def o40 (w : World) : Obj := ⟨.type "code", none, .fields #[.str (Str.ofString "may_leave") 213, .str (Str.ofString "may_leave") 214, .str (Str.ofString "/claim/cut.py") 215, .int (14) 0, .int (3) 0, .int (0) 0, .int (0) 0, .int (3) 0, .ref 35, .bool true, .int (181) 0, .ref 36, .none, .ref 37, .ref 38, .ref 39, .int (220) 0, .int (14) 0, .str (Str.ofString "/claim/cut.py") 221], #[]⟩
def o48 (w : World) : Obj := ⟨.type "function", none, .func ⟨(Str.ofString "without"), (Str.ofString "without"), defArgs (top 6), .stmts (defBody (top 6)), defScope (top 6), 3, [], .none, .none, .none, .str (Str.ofString "litmuscore.buffers") 187, none, .ref 47, .none, 0⟩, #[]⟩
def o47 (w : World) : Obj := ⟨.type "code", none, .fields #[.str (Str.ofString "without") 223, .str (Str.ofString "without") 224, .str (Str.ofString "/claim/cut.py") 225, .int (23) 0, .int (2) 0, .int (0) 0, .int (0) 0, .int (3) 0, .ref 42, .bool true, .int (181) 0, .ref 43, .none, .ref 44, .ref 45, .ref 46, .int (230) 0, .int (23) 0, .str (Str.ofString "/claim/cut.py") 231], #[]⟩
def o59 (w : World) : Obj := ⟨.type "function", none, .func ⟨(Str.ofString "entry_of"), (Str.ofString "entry_of"), defArgs (top 9), .stmts (defBody (top 9)), defScope (top 9), 3, [], .none, .none, .none, .str (Str.ofString "litmuscore.caches") 233, none, .ref 58, .none, 0⟩, #[]⟩
def o58 (w : World) : Obj := ⟨.type "code", none, .fields #[.str (Str.ofString "entry_of") 236, .str (Str.ofString "entry_of") 237, .str (Str.ofString "/claim/cut.py") 238, .int (31) 0, .int (2) 0, .int (0) 0, .int (0) 0, .int (3) 0, .ref 53, .bool true, .int (181) 0, .ref 54, .none, .ref 55, .ref 56, .ref 57, .int (242) 0, .int (31) 0, .str (Str.ofString "/claim/cut.py") 243], #[]⟩
def o64 (w : World) : Obj := ⟨.type "function", none, .func ⟨(Str.ofString "without_line"), (Str.ofString "without_line"), defArgs (top 10), .stmts (defBody (top 10)), defScope (top 10), 3, [], .none, .none, .none, .str (Str.ofString "litmuscore.caches") 233, none, .ref 63, .none, 0⟩, #[]⟩
def o63 (w : World) : Obj := ⟨.type "code", none, .fields #[.str (Str.ofString "without_line") 245, .str (Str.ofString "without_line") 246, .str (Str.ofString "/claim/cut.py") 247, .int (36) 0, .int (2) 0, .int (0) 0, .int (0) 0, .int (3) 0, .ref 60, .bool true, .int (181) 0, .ref 61, .none, .none, .none, .ref 62, .int (248) 0, .int (36) 0, .str (Str.ofString "/claim/cut.py") 249], #[]⟩
def o255 (w : World) : Obj := ⟨.type "function", none, .func ⟨(Str.ofString "with_entry"), (Str.ofString "with_entry"), defArgs (top 51), .stmts (defBody (top 51)), defScope (top 51), 3, [], .none, .none, .none, .str (Str.ofString "litmuscore.pipelines") 503, none, .ref 254, .none, 0⟩, #[]⟩
def o254 (w : World) : Obj := ⟨.type "code", none, .fields #[.str (Str.ofString "with_entry") 566, .str (Str.ofString "with_entry") 567, .str (Str.ofString "/claim/cut.py") 568, .int (218) 0, .int (4) 0, .int (0) 0, .int (0) 0, .int (3) 0, .ref 249, .bool true, .int (181) 0, .ref 250, .none, .ref 251, .ref 252, .ref 253, .int (579) 0, .int (218) 0, .str (Str.ofString "/claim/cut.py") 580], #[]⟩
def o69 (w : World) : Obj := ⟨.type "function", none, .func ⟨(Str.ofString "with_entry"), (Str.ofString "with_entry"), defArgs (top 11), .stmts (defBody (top 11)), defScope (top 11), 3, [], .none, .none, .none, .str (Str.ofString "litmuscore.caches") 233, none, .ref 68, .none, 0⟩, #[]⟩
def o68 (w : World) : Obj := ⟨.type "code", none, .fields #[.str (Str.ofString "with_entry") 251, .str (Str.ofString "with_entry") 252, .str (Str.ofString "/claim/cut.py") 253, .int (38) 0, .int (2) 0, .int (0) 0, .int (0) 0, .int (3) 0, .ref 65, .bool true, .int (181) 0, .ref 66, .none, .none, .none, .ref 67, .int (254) 0, .int (38) 0, .str (Str.ofString "/claim/cut.py") 255], #[]⟩
def o74 (w : World) : Obj := ⟨.type "function", none, .func ⟨(Str.ofString "occupied_ways"), (Str.ofString "occupied_ways"), defArgs (top 13), .stmts (defBody (top 13)), defScope (top 13), 3, [], .none, .none, .none, .str (Str.ofString "litmuscore.caches") 233, none, .ref 73, .none, 0⟩, #[]⟩
def o73 (w : World) : Obj := ⟨.type "code", none, .fields #[.str (Str.ofString "occupied_ways") 258, .str (Str.ofString "occupied_ways") 259, .str (Str.ofString "/claim/cut.py") 260, .int (41) 0, .int (3) 0, .int (0) 0, .int (0) 0, .int (3) 0, .ref 70, .bool true, .int (181) 0, .ref 71, .none, .none, .none, .ref 72, .int (261) 0, .int (41) 0, .str (Str.ofString "/claim/cut.py") 262], #[]⟩
def o81 (w : World) : Obj := ⟨.type "function", none, .func ⟨(Str.ofString "read_word"), (Str.ofString "read_word"), defArgs (top 14), .stmts (defBody (top 14)), defScope (top 14), 3, [], .none, .none, .none, .str (Str.ofString "litmuscore.caches") 233, none, .ref 80, .none, 0⟩, #[]⟩
def o80 (w : World) : Obj := ⟨.type "code", none, .fields #[.str (Str.ofString "read_word") 264, .str (Str.ofString "read_word") 265, .str (Str.ofString "/claim/cut.py") 266, .int (46) 0, .int (3) 0, .int (0) 0, .int (0) 0, .int (3) 0, .ref 75, .bool true, .int (181) 0, .ref 76, .none, .ref 77, .ref 78, .ref 79, .int (271) 0, .int (46) 0, .str (Str.ofString "/claim/cut.py") 272], #[]⟩
def o88 (w : World) : Obj := ⟨.type "function", none, .func ⟨(Str.ofString "can_write"), (Str.ofString "can_write"), defArgs (top 15), .stmts (defBody (top 15)), defScope (top 15), 3, [], .none, .none, .none, .str (Str.ofString "litmuscore.caches") 233, none, .ref 87, .none, 0⟩, #[]⟩
def o87 (w : World) : Obj := ⟨.type "code", none, .fields #[.str (Str.ofString "can_write") 274, .str (Str.ofString "can_write") 275, .str (Str.ofString "/claim/cut.py") 276, .int (51) 0, .int (3) 0, .int (0) 0, .int (0) 0, .int (3) 0, .ref 82, .bool true, .int (181) 0, .ref 83, .none, .ref 84, .ref 85, .ref 86, .int (281) 0, .int (51) 0, .str (Str.ofString "/claim/cut.py") 282], #[]⟩
def o95 (w : World) : Obj := ⟨.type "function", none, .func ⟨(Str.ofString "write_word"), (Str.ofString "write_word"), defArgs (top 16), .stmts (defBody (top 16)), defScope (top 16), 3, [], .none, .none, .none, .str (Str.ofString "litmuscore.caches") 233, none, .ref 94, .none, 0⟩, #[]⟩
def o94 (w : World) : Obj := ⟨.type "code", none, .fields #[.str (Str.ofString "write_word") 284, .str (Str.ofString "write_word") 285, .str (Str.ofString "/claim/cut.py") 286, .int (54) 0, .int (4) 0, .int (0) 0, .int (0) 0, .int (3) 0, .ref 89, .bool true, .int (181) 0, .ref 90, .none, .ref 91, .ref 92, .ref 93, .int (295) 0, .int (54) 0, .str (Str.ofString "/claim/cut.py") 296], #[]⟩
def o102 (w : World) : Obj := ⟨.type "function", none, .func ⟨(Str.ofString "request_line"), (Str.ofString "request_line"), defArgs (top 17), .stmts (defBody (top 17)), defScope (top 17), 3, [], .none, .none, .none, .str (Str.ofString "litmuscore.caches") 233, none, .ref 101, .none, 0⟩, #[]⟩
def o101 (w : World) : Obj := ⟨.type "code", none, .fields #[.str (Str.ofString "request_line") 298, .str (Str.ofString "request_line") 299, .str (Str.ofString "/claim/cut.py") 300, .int (62) 0, .int (5) 0, .int (0) 0, .int (0) 0, .int (3) 0, .ref 96, .bool true, .int (181) 0, .ref 97, .none, .ref 98, .ref 99, .ref 100, .int (311) 0, .int (62) 0, .str (Str.ofString "/claim/cut.py") 312], #[]⟩
def o109 (w : World) : Obj := ⟨.type "function", none, .func ⟨(Str.ofString "give_up_line"), (Str.ofString "give_up_line"), defArgs (top 18), .stmts (defBody (top 18)), defScope (top 18), 3, [], .none, .none, .none, .str (Str.ofString "litmuscore.caches") 233, none, .ref 108, .none, 0⟩, #[]⟩
def o108 (w : World) : Obj := ⟨.type "code", none, .fields #[.str (Str.ofString "give_up_line") 314, .str (Str.ofString "give_up_line") 315, .str (Str.ofString "/claim/cut.py") 316, .int (75) 0, .int (3) 0, .int (0) 0, .int (0) 0, .int (3) 0, .ref 103, .bool true, .int (181) 0, .ref 104, .none, .ref 105, .ref 106, .ref 107, .int (327) 0, .int (75) 0, .str (Str.ofString "/claim/cut.py") 328], #[]⟩
def o116 (w : World) : Obj := ⟨.type "function", none, .func ⟨(Str.ofString "after_recall"), (Str.ofString "after_recall"), defArgs (top 19), .stmts (defBody (top 19)), defScope (top 19), 3, [], .none, .none, .none, .str (Str.ofString "litmuscore.caches") 233, none, .ref 115, .none, 0⟩, #[]⟩
def o115 (w : World) : Obj := ⟨.type "code", none, .fields #[.str (Str.ofString "after_recall") 330, .str (Str.ofString "after_recall") 331, .str (Str.ofString "/claim/cut.py") 332, .int (86) 0, .int (2) 0, .int (0) 0, .int (0) 0, .int (3) 0, .ref 110, .bool true, .int (181) 0, .ref 111, .none, .ref 112, .ref 113, .ref 114, .int (345) 0, .int (86) 0, .str (Str.ofString "/claim/cut.py") 346], #[]⟩
def o123 (w : World) : Obj := ⟨.type "function", none, .func ⟨(Str.ofString "cache_receives"), (Str.ofString "cache_receives"), defArgs (top 20), .stmts (defBody (top 20)), defScope (top 20), 3, [], .none, .none, .none, .str (Str.ofString "litmuscore.caches") 233, none, .ref 122, .none, 0⟩, #[]⟩
def o122 (w : World) : Obj := ⟨.type "code", none, .fields #[.str (Str.ofString "cache_receives") 348, .str (Str.ofString "cache_receives") 349, .str (Str.ofString "/claim/cut.py") 350, .int (98) 0, .int (2) 0, .int (0) 0, .int (0) 0, .int (3) 0, .ref 117, .bool true, .int (181) 0, .ref 118, .none, .ref 119, .ref 120, .ref 121, .int (360) 0, .int (98) 0, .str (Str.ofString "/claim/cut.py") 361], #[]⟩
def o131 (w : World) : Obj := ⟨.type "function", none, .func ⟨(Str.ofString "signed"), (Str.ofString "signed"), defArgs (top 25), .stmts (defBody (top 25)), defScope (top 25), 3, [], .none, .none, .none, .str (Str.ofString "litmuscore.words") 363, none, .ref 130, .none, 0⟩, #[]⟩
def o130 (w : World) : Obj := ⟨.type "code", none, .fields #[.str (Str.ofString "signed") 378, .str (Str.ofString "signed") 379, .str (Str.ofString "/claim/cut.py") 380, .int (113) 0, .int (1) 0, .int (0) 0, .int (0) 0, .int (3) 0, .ref 125, .bool true, .int (181) 0, .ref 126, .none, .ref 127, .ref 128, .ref 129, .int (382) 0, .int (113) 0, .str (Str.ofString "/claim/cut.py") 383], #[]⟩
def o138 (w : World) : Obj := ⟨.type "function", none, .func ⟨(Str.ofString "compare"), (Str.ofString "compare"), defArgs (top 26), .stmts (defBody (top 26)), defScope (top 26), 3, [], .none, .none, .none, .str (Str.ofString "litmuscore.words") 363, none, .ref 137, .none, 0⟩, #[]⟩
def o137 (w : World) : Obj := ⟨.type "code", none, .fields #[.str (Str.ofString "compare") 385, .str (Str.ofString "compare") 386, .str (Str.ofString "/claim/cut.py") 387, .int (117) 0, .int (3) 0, .int (0) 0, .int (0) 0, .int (3) 0, .ref 132, .bool true, .int (181) 0, .ref 133, .none, .ref 134, .ref 135, .ref 136, .int (391) 0, .int (117) 0, .str (Str.ofString "/claim/cut.py") 392], #[]⟩
def o145 (w : World) : Obj := ⟨.type "function", none, .func ⟨(Str.ofString "operate"), (Str.ofString "operate"), defArgs (top 27), .stmts (defBody (top 27)), defScope (top 27), 3, [], .none, .none, .none, .str (Str.ofString "litmuscore.words") 363, none, .ref 144, .none, 0⟩, #[]⟩
def o144 (w : World) : Obj := ⟨.type "code", none, .fields #[.str (Str.ofString "operate") 394, .str (Str.ofString "operate") 395, .str (Str.ofString "/claim/cut.py") 396, .int (129) 0, .int (3) 0, .int (0) 0, .int (0) 0, .int (3) 0, .ref 139, .bool true, .int (181) 0, .ref 140, .none, .ref 141, .ref 142, .ref 143, .int (400) 0, .int (129) 0, .str (Str.ofString "/claim/cut.py") 401], #[]⟩
def o156 (w : World) : Obj := ⟨.type "function", none, .func ⟨(Str.ofString "start_state"), (Str.ofString "start_state"), defArgs (top 34), .stmts (defBody (top 34)), defScope (top 34), 3, [], .none, .none, .none, .str (Str.ofString "litmuscore.programs") 403, none, .ref 155, .none, 0⟩, #[]⟩
def o155 (w : World) : Obj := ⟨.type "code", none, .fields #[.str (Str.ofString "start_state") 437, .str (Str.ofString "start_state") 438, .str (Str.ofString "/claim/cut.py") 439, .int (151) 0, .int (2) 0, .int (0) 0, .int (0) 0, .int (3) 0, .ref 150, .bool true, .int (181) 0, .ref 151, .none, .ref 152, .ref 153, .ref 154, .int (442) 0, .int (151) 0, .str (Str.ofString "/claim/cut.py") 443], #[]⟩
def o163 (w : World) : Obj := ⟨.type "function", none, .func ⟨(Str.ofString "instruction_at"), (Str.ofString "instruction_at"), defArgs (top 35), .stmts (defBody (top 35)), defScope (top 35), 3, [], .none, .none, .none, .str (Str.ofString "litmuscore.programs") 403, none, .ref 162, .none, 0⟩, #[]⟩
def o162 (w : World) : Obj := ⟨.type "code", none, .fields #[.str (Str.ofString "instruction_at") 445, .str (Str.ofString "instruction_at") 446, .str (Str.ofString "/claim/cut.py") 447, .int (153) 0, .int (2) 0, .int (0) 0, .int (0) 0, .int (3) 0, .ref 157, .bool true, .int (181) 0, .ref 158, .none, .ref 159, .ref 160, .ref 161, .int (450) 0, .int (153) 0, .str (Str.ofString "/claim/cut.py") 451], #[]⟩
def o170 (w : World) : Obj := ⟨.type "function", none, .func ⟨(Str.ofString "uses_memory"), (Str.ofString "uses_memory"), defArgs (top 36), .stmts (defBody (top 36)), defScope (top 36), 3, [], .none, .none, .none, .str (Str.ofString "litmuscore.programs") 403, none, .ref 169, .none, 0⟩, #[]⟩
def o169 (w : World) : Obj := ⟨.type "code", none, .fields #[.str (Str.ofString "uses_memory") 453, .str (Str.ofString "uses_memory") 454, .str (Str.ofString "/claim/cut.py") 455, .int (157) 0, .int (1) 0, .int (0) 0, .int (0) 0, .int (3) 0, .ref 164, .bool true, .int (181) 0, .ref 165, .none, .ref 166, .ref 167, .ref 168, .int (457) 0, .int (157) 0, .str (Str.ofString "/claim/cut.py") 458], #[]⟩
def o177 (w : World) : Obj := ⟨.type "function", none, .func ⟨(Str.ofString "address_from"), (Str.ofString "address_from"), defArgs (top 37), .stmts (defBody (top 37)), defScope (top 37), 3, [], .none, .none, .none, .str (Str.ofString "litmuscore.programs") 403, none, .ref 176, .none, 0⟩, #[]⟩
def o176 (w : World) : Obj := ⟨.type "code", none, .fields #[.str (Str.ofString "address_from") 460, .str (Str.ofString "address_from") 461, .str (Str.ofString "/claim/cut.py") 462, .int (159) 0, .int (2) 0, .int (0) 0, .int (0) 0, .int (3) 0, .ref 171, .bool true, .int (181) 0, .ref 172, .none, .ref 173, .ref 174, .ref 175, .int (465) 0, .int (159) 0, .str (Str.ofString "/claim/cut.py") 466], #[]⟩
def o184 (w : World) : Obj := ⟨.type "function", none, .func ⟨(Str.ofString "operand_registers"), (Str.ofString "operand_registers"), defArgs (top 38), .stmts (defBody (top 38)), defScope (top 38), 3, [], .none, .none, .none, .str (Str.ofString "litmuscore.programs") 403, none, .ref 183, .none, 0⟩, #[]⟩
def o183 (w : World) : Obj := ⟨.type "code", none, .fields #[.str (Str.ofString "operand_registers") 468, .str (Str.ofString "operand_registers") 469, .str (Str.ofString "/claim/cut.py") 470, .int (163) 0, .int (1) 0, .int (0) 0, .int (0) 0, .int (3) 0, .ref 178, .bool true, .int (181) 0, .ref 179, .none, .ref 180, .ref 181, .ref 182, .int (472) 0, .int (163) 0, .str (Str.ofString "/claim/cut.py") 473], #[]⟩
def o191 (w : World) : Obj := ⟨.type "function", none, .func ⟨(Str.ofString "result_of"), (Str.ofString "result_of"), defArgs (top 39), .stmts (defBody (top 39)), defScope (top 39), 3, [], .none, .none, .none, .str (Str.ofString "litmuscore.programs") 403, none, .ref 190, .none, 0⟩, #[]⟩
def o190 (w : World) : Obj := ⟨.type "code", none, .fields #[.str (Str.ofString "result_of") 475, .str (Str.ofString "result_of") 476, .str (Str.ofString "/claim/cut.py") 477, .int (169) 0, .int (3) 0, .int (0) 0, .int (0) 0, .int (3) 0, .ref 185, .bool true, .int (181) 0, .ref 186, .none, .ref 187, .ref 188, .ref 189, .int (481) 0, .int (169) 0, .str (Str.ofString "/claim/cut.py") 482], #[]⟩
def o198 (w : World) : Obj := ⟨.type "function", none, .func ⟨(Str.ofString "address_after"), (Str.ofString "address_after"), defArgs (top 40), .stmts (defBody (top 40)), defScope (top 40), 3, [], .none, .none, .none, .str (Str.ofString "litmuscore.programs") 403, none, .ref 197, .none, 0⟩, #[]⟩
def o197 (w : World) : Obj := ⟨.type "code", none, .fields #[.str (Str.ofString "address_after") 484, .str (Str.ofString "address_after") 485, .str (Str.ofString "/claim/cut.py") 486, .int (173) 0, .int (4) 0, .int (0) 0, .int (0) 0, .int (3) 0, .ref 192, .bool true, .int (181) 0, .ref 193, .none, .ref 194, .ref 195, .ref 196, .int (491) 0, .int (173) 0, .str (Str.ofString "/claim/cut.py") 492], #[]⟩
def o205 (w : World) : Obj := ⟨.type "function", none, .func ⟨(Str.ofString "with_register"), (Str.ofString "with_register"), defArgs (top 41), .stmts (defBody (top 41)), defScope (top 41), 3, [], .none, .none, .none, .str (Str.ofString "litmuscore.programs") 403, none, .ref 204, .none, 0⟩, #[]⟩
def o204 (w : World) : Obj := ⟨.type "code", none, .fields #[.str (Str.ofString "with_register") 494, .str (Str.ofString "with_register") 495, .str (Str.ofString "/claim/cut.py") 496, .int (179) 0, .int (3) 0, .int (0) 0, .int (0) 0, .int (3) 0, .ref 199, .bool true, .int (181) 0, .ref 200, .none, .ref 201, .ref 202, .ref 203, .int (500) 0, .int (179) 0, .str (Str.ofString "/claim/cut.py") 501], #[]⟩
def o213 (w : World) : Obj := ⟨.type "function", none, .func ⟨(Str.ofString "start_pipeline"), (Str.ofString "start_pipeline"), defArgs (top 45), .stmts (defBody (top 45)), defScope (top 45), 3, [], .none, .none, .none, .str (Str.ofString "litmuscore.pipelines") 503, none, .ref 212, .none, 0⟩, #[]⟩
def o212 (w : World) : Obj := ⟨.type "code", none, .fields #[.str (Str.ofString "start_pipeline") 510, .str (Str.ofString "start_pipeline") 511, .str (Str.ofString "/claim/cut.py") 512, .int (186) 0, .int (2) 0, .int (0) 0, .int (0) 0, .int (3) 0, .ref 207, .bool true, .int (181) 0, .ref 208, .none, .ref 209, .ref 210, .ref 211, .int (515) 0, .int (186) 0, .str (Str.ofString "/claim/cut.py") 516], #[]⟩
def o220 (w : World) : Obj := ⟨.type "function", none, .func ⟨(Str.ofString "is_predictable"), (Str.ofString "is_predictable"), defArgs (top 46), .stmts (defBody (top 46)), defScope (top 46), 3, [], .none, .none, .none, .str (Str.ofString "litmuscore.pipelines") 503, none, .ref 219, .none, 0⟩, #[]⟩
def o219 (w : World) : Obj := ⟨.type "code", none, .fields #[.str (Str.ofString "is_predictable") 518, .str (Str.ofString "is_predictable") 519, .str (Str.ofString "/claim/cut.py") 520, .int (188) 0, .int (1) 0, .int (0) 0, .int (0) 0, .int (3) 0, .ref 214, .bool true, .int (181) 0, .ref 215, .none, .ref 216, .ref 217, .ref 218, .int (522) 0, .int (188) 0, .str (Str.ofString "/claim/cut.py") 523], #[]⟩
def o227 (w : World) : Obj := ⟨.type "function", none, .func ⟨(Str.ofString "predicted"), (Str.ofString "predicted"), defArgs (top 47), .stmts (defBody (top 47)), defScope (top 47), 3, [], .none, .none, .none, .str (Str.ofString "litmuscore.pipelines") 503, none, .ref 226, .none, 0⟩, #[]⟩
def o226 (w : World) : Obj := ⟨.type "code", none, .fields #[.str (Str.ofString "predicted") 525, .str (Str.ofString "predicted") 526, .str (Str.ofString "/claim/cut.py") 527, .int (190) 0, .int (4) 0, .int (0) 0, .int (0) 0, .int (3) 0, .ref 221, .bool true, .int (181) 0, .ref 222, .none, .ref 223, .ref 224, .ref 225, .int (533) 0, .int (190) 0, .str (Str.ofString "/claim/cut.py") 534], #[]⟩
def o234 (w : World) : Obj := ⟨.type "function", none, .func ⟨(Str.ofString "has_result"), (Str.ofString "has_result"), defArgs (top 48), .stmts (defBody (top 48)), defScope (top 48), 3, [], .none, .none, .none, .str (Str.ofString "litmuscore.pipelines") 503, none, .ref 233, .none, 0⟩, #[]⟩
def o233 (w : World) : Obj := ⟨.type "code", none, .fields #[.str (Str.ofString "has_result") 536, .str (Str.ofString "has_result") 537, .str (Str.ofString "/claim/cut.py") 538, .int (201) 0, .int (1) 0, .int (0) 0, .int (0) 0, .int (3) 0, .ref 228, .bool true, .int (181) 0, .ref 229, .none, .ref 230, .ref 231, .ref 232, .int (540) 0, .int (201) 0, .str (Str.ofString "/claim/cut.py") 541], #[]⟩
def o241 (w : World) : Obj := ⟨.type "function", none, .func ⟨(Str.ofString "destination"), (Str.ofString "destination"), defArgs (top 49), .stmts (defBody (top 49)), defScope (top 49), 3, [], .none, .none, .none, .str (Str.ofString "litmuscore.pipelines") 503, none, .ref 240, .none, 0⟩, #[]⟩
def o240 (w : World) : Obj := ⟨.type "code", none, .fields #[.str (Str.ofString "destination") 543, .str (Str.ofString "destination") 544, .str (Str.ofString "/claim/cut.py") 545, .int (203) 0, .int (1) 0, .int (0) 0, .int (0) 0, .int (3) 0, .ref 235, .bool true, .int (181) 0, .ref 236, .none, .ref 237, .ref 238, .ref 239, .int (547) 0, .int (203) 0, .str (Str.ofString "/claim/cut.py") 548], #[]⟩
def o248 (w : World) : Obj := ⟨.type "function", none, .func ⟨(Str.ofString "operand"), (Str.ofString "operand"), defArgs (top 50), .stmts (defBody (top 50)), defScope (top 50), 3, [], .none, .none, .none, .str (Str.ofString "litmuscore.pipelines") 503, none, .ref 247, .none, 0⟩, #[]⟩
def o247 (w : World) : Obj := ⟨.type "code", none, .fields #[.str (Str.ofString "operand") 550, .str (Str.ofString "operand") 551, .str (Str.ofString "/claim/cut.py") 552, .int (209) 0, .int (3) 0, .int (0) 0, .int (0) 0, .int (3) 0, .ref 242, .bool true, .int (181) 0, .ref 243, .none, .ref 244, .ref 245, .ref 246, .int (563) 0, .int (209) 0, .str (Str.ofString "/claim/cut.py") 564], #[]⟩
def o262 (w : World) : Obj := ⟨.type "function", none, .func ⟨(Str.ofString "fetch"), (Str.ofString "fetch"), defArgs (top 53), .stmts (defBody (top 53)), defScope (top 53), 3, [], .none, .none, .none, .str (Str.ofString "litmuscore.pipelines") 503, none, .ref 261, .none, 0⟩, #[]⟩
def o261 (w : World) : Obj := ⟨.type "code", none, .fields #[.str (Str.ofString "fetch") 583, .str (Str.ofString "fetch") 584, .str (Str.ofString "/claim/cut.py") 585, .int (225) 0, .int (5) 0, .int (0) 0, .int (0) 0, .int (3) 0, .ref 256, .bool true, .int (181) 0, .ref 257, .none, .ref 258, .ref 259, .ref 260, .int (600) 0, .int (225) 0, .str (Str.ofString "/claim/cut.py") 601], #[]⟩
def o269 (w : World) : Obj := ⟨.type "function", none, .func ⟨(Str.ofString "is_executed"), (Str.ofString "is_executed"), defArgs (top 54), .stmts (defBody (top 54)), defScope (top 54), 3, [], .none, .none, .none, .str (Str.ofString "litmuscore.pipelines") 503, none, .ref 268, .none, 0⟩, #[]⟩
def o268 (w : World) : Obj := ⟨.type "code", none, .fields #[.str (Str.ofString "is_executed") 603, .str (Str.ofString "is_executed") 604, .str (Str.ofString "/claim/cut.py") 605, .int (235) 0, .int (1) 0, .int (0) 0, .int (0) 0, .int (3) 0, .ref 263, .bool true, .int (181) 0, .ref 264, .none, .ref 265, .ref 266, .ref 267, .int (607) 0, .int (235) 0, .str (Str.ofString "/claim/cut.py") 608], #[]⟩
def o276 (w : World) : Obj := ⟨.type "function", none, .func ⟨(Str.ofString "execute"), (Str.ofString "execute"), defArgs (top 55), .stmts (defBody (top 55)), defScope (top 55), 3, [], .none, .none, .none, .str (Str.ofString "litmuscore.pipelines") 503, none, .ref 275, .none, 0⟩, #[]⟩
def o275 (w : World) : Obj := ⟨.type "code", none, .fields #[.str (Str.ofString "execute") 610, .str (Str.ofString "execute") 611, .str (Str.ofString "/claim/cut.py") 612, .int (239) 0, .int (2) 0, .int (0) 0, .int (0) 0, .int (3) 0, .ref 270, .bool true, .int (181) 0, .ref 271, .none, .ref 272, .ref 273, .ref 274, .int (627) 0, .int (239) 0, .str (Str.ofString "/claim/cut.py") 628], #[]⟩
def o283 (w : World) : Obj := ⟨.type "function", none, .func ⟨(Str.ofString "is_unresolved"), (Str.ofString "is_unresolved"), defArgs (top 56), .stmts (defBody (top 56)), defScope (top 56), 3, [], .none, .none, .none, .str (Str.ofString "litmuscore.pipelines") 503, none, .ref 282, .none, 0⟩, #[]⟩
def o282 (w : World) : Obj := ⟨.type "code", none, .fields #[.str (Str.ofString "is_unresolved") 630, .str (Str.ofString "is_unresolved") 631, .str (Str.ofString "/claim/cut.py") 632, .int (255) 0, .int (1) 0, .int (0) 0, .int (0) 0, .int (3) 0, .ref 277, .bool true, .int (181) 0, .ref 278, .none, .ref 279, .ref 280, .ref 281, .int (634) 0, .int (255) 0, .str (Str.ofString "/claim/cut.py") 635], #[]⟩
def o288 (w : World) : Obj := ⟨.type "function", none, .func ⟨(Str.ofString "resolve"), (Str.ofString "resolve"), defArgs (top 57), .stmts (defBody (top 57)), defScope (top 57), 3, [], .none, .none, .none, .str (Str.ofString "litmuscore.pipelines") 503, none, .ref 287, .none, 0⟩, #[]⟩
def o287 (w : World) : Obj := ⟨.type "code", none, .fields #[.str (Str.ofString "resolve") 637, .str (Str.ofString "resolve") 638, .str (Str.ofString "/claim/cut.py") 639, .int (257) 0, .int (3) 0, .int (0) 0, .int (0) 0, .int (3) 0, .ref 284, .bool true, .int (181) 0, .ref 285, .none, .none, .none, .ref 286, .int (640) 0, .int (257) 0, .str (Str.ofString "/claim/cut.py") 641], #[]⟩
def o295 (w : World) : Obj := ⟨.type "function", none, .func ⟨(Str.ofString "buffered_word"), (Str.ofString "buffered_word"), defArgs (top 58), .stmts (defBody (top 58)), defScope (top 58), 3, [], .none, .none, .none, .str (Str.ofString "litmuscore.pipelines") 503, none, .ref 294, .none, 0⟩, #[]⟩
def o294 (w : World) : Obj := ⟨.type "code", none, .fields #[.str (Str.ofString "buffered_word") 643, .str (Str.ofString "buffered_word") 644, .str (Str.ofString "/claim/cut.py") 645, .int (271) 0, .int (4) 0, .int (0) 0, .int (0) 0, .int (3) 0, .ref 289, .bool true, .int (181) 0, .ref 290, .none, .ref 291, .ref 292, .ref 293, .int (651) 0, .int (271) 0, .str (Str.ofString "/claim/cut.py") 652], #[]⟩
def o302 (w : World) : Obj := ⟨.type "function", none, .func ⟨(Str.ofString "is_placed_load"), (Str.ofString "is_placed_load"), defArgs (top 59), .stmts (defBody (top 59)), defScope (top 59), 3, [], .none, .none, .none, .str (Str.ofString "litmuscore.pipelines") 503, none, .ref 301, .none, 0⟩, #[]⟩
def o301 (w : World) : Obj := ⟨.type "code", none, .fields #[.str (Str.ofString "is_placed_load") 654, .str (Str.ofString "is_placed_load") 655, .str (Str.ofString "/claim/cut.py") 656, .int (276) 0, .int (2) 0, .int (0) 0, .int (0) 0, .int (3) 0, .ref 296, .bool true, .int (181) 0, .ref 297, .none, .ref 298, .ref 299, .ref 300, .int (661) 0, .int (276) 0, .str (Str.ofString "/claim/cut.py") 662], #[]⟩
def o309 (w : World) : Obj := ⟨.type "function", none, .func ⟨(Str.ofString "readable_word"), (Str.ofString "readable_word"), defArgs (top 60), .stmts (defBody (top 60)), defScope (top 60), 3, [], .none, .none, .none, .str (Str.ofString "litmuscore.pipelines") 503, none, .ref 308, .none, 0⟩, #[]⟩
def o308 (w : World) : Obj := ⟨.type "code", none, .fields #[.str (Str.ofString "readable_word") 664, .str (Str.ofString "readable_word") 665, .str (Str.ofString "/claim/cut.py") 666, .int (281) 0, .int (4) 0, .int (0) 0, .int (0) 0, .int (3) 0, .ref 303, .bool true, .int (181) 0, .ref 304, .none, .ref 305, .ref 306, .ref 307, .int (675) 0, .int (281) 0, .str (Str.ofString "/claim/cut.py") 676], #[]⟩
def o316 (w : World) : Obj := ⟨.type "function", none, .func ⟨(Str.ofString "holds_back"), (Str.ofString "holds_back"), defArgs (top 61), .stmts (defBody (top 61)), defScope (top 61), 3, [], .none, .none, .none, .str (Str.ofString "litmuscore.pipelines") 503, none, .ref 315, .none, 0⟩, #[]⟩
def o315 (w : World) : Obj := ⟨.type "code", none, .fields #[.str (Str.ofString "holds_back") 678, .str (Str.ofString "holds_back") 679, .str (Str.ofString "/claim/cut.py") 680, .int (290) 0, .int (2) 0, .int (0) 0, .int (0) 0, .int (3) 0, .ref 310, .bool true, .int (181) 0, .ref 311, .none, .ref 312, .ref 313, .ref 314, .int (690) 0, .int (290) 0, .str (Str.ofString "/claim/cut.py") 691], #[]⟩
def o321 (w : World) : Obj := ⟨.type "function", none, .func ⟨(Str.ofString "load"), (Str.ofString "load"), defArgs (top 62), .stmts (defBody (top 62)), defScope (top 62), 3, [], .none, .none, .none, .str (Str.ofString "litmuscore.pipelines") 503, none, .ref 320, .none, 0⟩, #[]⟩
def o320 (w : World) : Obj := ⟨.type "code", none, .fields #[.str (Str.ofString "load") 693, .str (Str.ofString "load") 694, .str (Str.ofString "/claim/cut.py") 695, .int (299) 0, .int (5) 0, .int (0) 0, .int (0) 0, .int (3) 0, .ref 317, .bool true, .int (181) 0, .ref 318, .none, .none, .none, .ref 319, .int (696) 0, .int (299) 0, .str (Str.ofString "/claim/cut.py") 697], #[]⟩
def o328 (w : World) : Obj := ⟨.type "function", none, .func ⟨(Str.ofString "visible_word"), (Str.ofString "visible_word"), defArgs (top 64), .stmts (defBody (top 64)), defScope (top 64), 3, [], .none, .none, .none, .str (Str.ofString "litmuscore.commits") 699, none, .ref 327, .none, 0⟩, #[]⟩
def o327 (w : World) : Obj := ⟨.type "code", none, .fields #[.str (Str.ofString "visible_word") 701, .str (Str.ofString "visible_word") 702, .str (Str.ofString "/claim/cut.py") 703, .int (311) 0, .int (4) 0, .int (0) 0, .int (0) 0, .int (3) 0, .ref 322, .bool true, .int (181) 0, .ref 323, .none, .ref 324, .ref 325, .ref 326, .int (708) 0, .int (311) 0, .str (Str.ofString "/claim/cut.py") 709], #[]⟩
def o335 (w : World) : Obj := ⟨.type "function", none, .func ⟨(Str.ofString "committed"), (Str.ofString "committed"), defArgs (top 65), .stmts (defBody (top 65)), defScope (top 65), 3, [], .none, .none, .none, .str (Str.ofString "litmuscore.commits") 699, none, .ref 334, .none, 0⟩, #[]⟩
def o334 (w : World) : Obj := ⟨.type "code", none, .fields #[.str (Str.ofString "committed") 711, .str (Str.ofString "committed") 712, .str (Str.ofString "/claim/cut.py") 713, .int (313) 0, .int (4) 0, .int (0) 0, .int (0) 0, .int (3) 0, .ref 329, .bool true, .int (181) 0, .ref 330, .none, .ref 331, .ref 332, .ref 333, .int (724) 0, .int (313) 0, .str (Str.ofString "/claim/cut.py") 725], #[]⟩
def o342 (w : World) : Obj := ⟨.type "function", none, .func ⟨(Str.ofString "commit_halt"), (Str.ofString "commit_halt"), defArgs (top 66), .stmts (defBody (top 66)), defScope (top 66), 3, [], .none, .none, .none, .str (Str.ofString "litmuscore.commits") 699, none, .ref 341, .none, 0⟩, #[]⟩
def o341 (w : World) : Obj := ⟨.type "code", none, .fields #[.str (Str.ofString "commit_halt") 727, .str (Str.ofString "commit_halt") 728, .str (Str.ofString "/claim/cut.py") 729, .int (317) 0, .int (1) 0, .int (0) 0, .int (0) 0, .int (3) 0, .ref 336, .bool true, .int (181) 0, .ref 337, .none, .ref 338, .ref 339, .ref 340, .int (736) 0, .int (317) 0, .str (Str.ofString "/claim/cut.py") 737], #[]⟩
def o349 (w : World) : Obj := ⟨.type "function", none, .func ⟨(Str.ofString "commit_fence"), (Str.ofString "commit_fence"), defArgs (top 67), .stmts (defBody (top 67)), defScope (top 67), 3, [], .none, .none, .none, .str (Str.ofString "litmuscore.commits") 699, none, .ref 348, .none, 0⟩, #[]⟩
def o348 (w : World) : Obj := ⟨.type "code", none, .fields #[.str (Str.ofString "commit_fence") 739, .str (Str.ofString "commit_fence") 740, .str (Str.ofString "/claim/cut.py") 741, .int (320) 0, .int (2) 0, .int (0) 0, .int (0) 0, .int (3) 0, .ref 343, .bool true, .int (181) 0, .ref 344, .none, .ref 345, .ref 346, .ref 347, .int (749) 0, .int (320) 0, .str (Str.ofString "/claim/cut.py") 750], #[]⟩
def o356 (w : World) : Obj := ⟨.type "function", none, .func ⟨(Str.ofString "commit_plain"), (Str.ofString "commit_plain"), defArgs (top 68), .stmts (defBody (top 68)), defScope (top 68), 3, [], .none, .none, .none, .str (Str.ofString "litmuscore.commits") 699, none, .ref 355, .none, 0⟩, #[]⟩
def o355 (w : World) : Obj := ⟨.type "code", none, .fields #[.str (Str.ofString "commit_plain") 752, .str (Str.ofString "commit_plain") 753, .str (Str.ofString "/claim/cut.py") 754, .int (327) 0, .int (1) 0, .int (0) 0, .int (0) 0, .int (3) 0, .ref 350, .bool true, .int (181) 0, .ref 351, .none, .ref 352, .ref 353, .ref 354, .int (763) 0, .int (327) 0, .str (Str.ofString "/claim/cut.py") 764], #[]⟩
def o363 (w : World) : Obj := ⟨.type "function", none, .func ⟨(Str.ofString "commit_load"), (Str.ofString "commit_load"), defArgs (top 69), .stmts (defBody (top 69)), defScope (top 69), 3, [], .none, .none, .none, .str (Str.ofString "litmuscore.commits") 699, none, .ref 362, .none, 0⟩, #[]⟩
def o362 (w : World) : Obj := ⟨.type "code", none, .fields #[.str (Str.ofString "commit_load") 766, .str (Str.ofString "commit_load") 767, .str (Str.ofString "/claim/cut.py") 768, .int (338) 0, .int (4) 0, .int (0) 0, .int (0) 0, .int (3) 0, .ref 357, .bool true, .int (181) 0, .ref 358, .none, .ref 359, .ref 360, .ref 361, .int (787) 0, .int (338) 0, .str (Str.ofString "/claim/cut.py") 788], #[]⟩
def o370 (w : World) : Obj := ⟨.type "function", none, .func ⟨(Str.ofString "commit_store"), (Str.ofString "commit_store"), defArgs (top 70), .stmts (defBody (top 70)), defScope (top 70), 3, [], .none, .none, .none, .str (Str.ofString "litmuscore.commits") 699, none, .ref 369, .none, 0⟩, #[]⟩
def o369 (w : World) : Obj := ⟨.type "code", none, .fields #[.str (Str.ofString "commit_store") 790, .str (Str.ofString "commit_store") 791, .str (Str.ofString "/claim/cut.py") 792, .int (352) 0, .int (3) 0, .int (0) 0, .int (0) 0, .int (3) 0, .ref 364, .bool true, .int (181) 0, .ref 365, .none, .ref 366, .ref 367, .ref 368, .int (804) 0, .int (352) 0, .str (Str.ofString "/claim/cut.py") 805], #[]⟩
def o377 (w : World) : Obj := ⟨.type "function", none, .func ⟨(Str.ofString "after_atomic"), (Str.ofString "after_atomic"), defArgs (top 71), .stmts (defBody (top 71)), defScope (top 71), 3, [], .none, .none, .none, .str (Str.ofString "litmuscore.commits") 699, none, .ref 376, .none, 0⟩, #[]⟩
def o376 (w : World) : Obj := ⟨.type "code", none, .fields #[.str (Str.ofString "after_atomic") 807, .str (Str.ofString "after_atomic") 808, .str (Str.ofString "/claim/cut.py") 809, .int (359) 0, .int (4) 0, .int (0) 0, .int (0) 0, .int (3) 0, .ref 371, .bool true, .int (181) 0, .ref 372, .none, .ref 373, .ref 374, .ref 375, .int (821) 0, .int (359) 0, .str (Str.ofString "/claim/cut.py") 822], #[]⟩
def o384 (w : World) : Obj := ⟨.type "function", none, .func ⟨(Str.ofString "commit_swap"), (Str.ofString "commit_swap"), defArgs (top 72), .stmts (defBody (top 72)), defScope (top 72), 3, [], .none, .none, .none, .str (Str.ofString "litmuscore.commits") 699, none, .ref 383, .none, 0⟩, #[]⟩
def o383 (w : World) : Obj := ⟨.type "code", none, .fields #[.str (Str.ofString "commit_swap") 824, .str (Str.ofString "commit_swap") 825, .str (Str.ofString "/claim/cut.py") 826, .int (365) 0, .int (4) 0, .int (0) 0, .int (0) 0, .int (3) 0, .ref 378, .bool true, .int (181) 0, .ref 379, .none, .ref 380, .ref 381, .ref 382, .int (836) 0, .int (365) 0, .str (Str.ofString "/claim/cut.py") 837], #[]⟩
def o391 (w : World) : Obj := ⟨.type "function", none, .func ⟨(Str.ofString "commit_linked"), (Str.ofString "commit_linked"), defArgs (top 73), .stmts (defBody (top 73)), defScope (top 73), 3, [], .none, .none, .none, .str (Str.ofString "litmuscore.commits") 699, none, .ref 390, .none, 0⟩, #[]⟩
def o390 (w : World) : Obj := ⟨.type "code", none, .fields #[.str (Str.ofString "commit_linked") 839, .str (Str.ofString "commit_linked") 840, .str (Str.ofString "/claim/cut.py") 841, .int (375) 0, .int (4) 0, .int (0) 0, .int (0) 0, .int (3) 0, .ref 385, .bool true, .int (181) 0, .ref 386, .none, .ref 387, .ref 388, .ref 389, .int (848) 0, .int (375) 0, .str (Str.ofString "/claim/cut.py") 849], #[]⟩
def o398 (w : World) : Obj := ⟨.type "function", none, .func ⟨(Str.ofString "commit_conditional"), (Str.ofString "commit_conditional"), defArgs (top 74), .stmts (defBody (top 74)), defScope (top 74), 3, [], .none, .none, .none, .str (Str.ofString "litmuscore.commits") 699, none, .ref 397, .none, 0⟩, #[]⟩
def o397 (w : World) : Obj := ⟨.type "code", none, .fields #[.str (Str.ofString "commit_conditional") 851, .str (Str.ofString "commit_conditional") 852, .str (Str.ofString "/claim/cut.py") 853, .int (381) 0, .int (4) 0, .int (0) 0, .int (0) 0, .int (3) 0, .ref 392, .bool true, .int (181) 0, .ref 393, .none, .ref 394, .ref 395, .ref 396, .int (861) 0, .int (381) 0, .str (Str.ofString "/claim/cut.py") 862], #[]⟩
def o405 (w : World) : Obj := ⟨.type "function", none, .func ⟨(Str.ofString "commit_access"), (Str.ofString "commit_access"), defArgs (top 75), .stmts (defBody (top 75)), defScope (top 75), 3, [], .none, .none, .none, .str (Str.ofString "litmuscore.commits") 699, none, .ref 404, .none, 0⟩, #[]⟩
def o404 (w : World) : Obj := ⟨.type "code", none, .fields #[.str (Str.ofString "commit_access") 864, .str (Str.ofString "commit_access") 865, .str (Str.ofString "/claim/cut.py") 866, .int (389) 0, .int (4) 0, .int (0) 0, .int (0) 0, .int (3) 0, .ref 399, .bool true, .int (181) 0, .ref 400, .none, .ref 401, .ref 402, .ref 403, .int (873) 0, .int (389) 0, .str (Str.ofString "/claim/cut.py") 874], #[]⟩
def o412 (w : World) : Obj := ⟨.type "function", none, .func ⟨(Str.ofString "commit"), (Str.ofString "commit"), defArgs (top 76), .stmts (defBody (top 76)), defScope (top 76), 3, [], .none, .none, .none, .str (Str.ofString "litmuscore.commits") 699, none, .ref 411, .none, 0⟩, #[]⟩
def o411 (w : World) : Obj := ⟨.type "code", none, .fields #[.str (Str.ofString "commit") 876, .str (Str.ofString "commit") 877, .str (Str.ofString "/claim/cut.py") 878, .int (404) 0, .int (4) 0, .int (0) 0, .int (0) 0, .int (3) 0, .ref 406, .bool true, .int (181) 0, .ref 407, .none, .ref 408, .ref 409, .ref 410, .int (886) 0, .int (404) 0, .str (Str.ofString "/claim/cut.py") 887], #[]⟩
def o419 (w : World) : Obj := ⟨.type "function", none, .func ⟨(Str.ofString "drain"), (Str.ofString "drain"), defArgs (top 77), .stmts (defBody (top 77)), defScope (top 77), 3, [], .none, .none, .none, .str (Str.ofString "litmuscore.commits") 699, none, .ref 418, .none, 0⟩, #[]⟩
def o418 (w : World) : Obj := ⟨.type "code", none, .fields #[.str (Str.ofString "drain") 889, .str (Str.ofString "drain") 890, .str (Str.ofString "/claim/cut.py") 891, .int (415) 0, .int (4) 0, .int (0) 0, .int (0) 0, .int (3) 0, .ref 413, .bool true, .int (181) 0, .ref 414, .none, .ref 415, .ref 416, .ref 417, .int (906) 0, .int (415) 0, .str (Str.ofString "/claim/cut.py") 907], #[]⟩
def o426 (w : World) : Obj := ⟨.type "function", none, .func ⟨(Str.ofString "keep_reservation"), (Str.ofString "keep_reservation"), defArgs (top 78), .stmts (defBody (top 78)), defScope (top 78), 3, [], .none, .none, .none, .str (Str.ofString "litmuscore.commits") 699, none, .ref 425, .none, 0⟩, #[]⟩
def o425 (w : World) : Obj := ⟨.type "code", none, .fields #[.str (Str.ofString "keep_reservation") 909, .str (Str.ofString "keep_reservation") 910, .str (Str.ofString "/claim/cut.py") 911, .int (424) 0, .int (3) 0, .int (0) 0, .int (0) 0, .int (3) 0, .ref 420, .bool true, .int (181) 0, .ref 421, .none, .ref 422, .ref 423, .ref 424, .int (920) 0, .int (424) 0, .str (Str.ofString "/claim/cut.py") 921], #[]⟩
def o436 (w : World) : Obj := ⟨.type "function", none, .func ⟨(Str.ofString "can_receive"), (Str.ofString "can_receive"), defArgs (top 82), .stmts (defBody (top 82)), defScope (top 82), 3, [], .none, .none, .none, .str (Str.ofString "litmuscore.directory") 923, none, .ref 435, .none, 0⟩, #[]⟩
def o435 (w : World) : Obj := ⟨.type "code", none, .fields #[.str (Str.ofString "can_receive") 930, .str (Str.ofString "can_receive") 931, .str (Str.ofString "/claim/cut.py") 932, .int (432) 0, .int (2) 0, .int (0) 0, .int (0) 0, .int (3) 0, .ref 430, .bool true, .int (181) 0, .ref 431, .none, .ref 432, .ref 433, .ref 434, .int (935) 0, .int (432) 0, .str (Str.ofString "/claim/cut.py") 936], #[]⟩
def o441 (w : World) : Obj := ⟨.type "function", none, .func ⟨(Str.ofString "begun"), (Str.ofString "begun"), defArgs (top 83), .stmts (defBody (top 83)), defScope (top 83), 3, [], .none, .none, .none, .str (Str.ofString "litmuscore.directory") 923, none, .ref 440, .none, 0⟩, #[]⟩
def o440 (w : World) : Obj := ⟨.type "code", none, .fields #[.str (Str.ofString "begun") 938, .str (Str.ofString "begun") 939, .str (Str.ofString "/claim/cut.py") 940, .int (434) 0, .int (3) 0, .int (0) 0, .int (0) 0, .int (3) 0, .ref 437, .bool true, .int (181) 0, .ref 438, .none, .none, .none, .ref 439, .int (941) 0, .int (434) 0, .str (Str.ofString "/claim/cut.py") 942], #[]⟩
def o446 (w : World) : Obj := ⟨.type "function", none, .func ⟨(Str.ofString "invalidated"), (Str.ofString "invalidated"), defArgs (top 84), .stmts (defBody (top 84)), defScope (top 84), 3, [], .none, .none, .none, .str (Str.ofString "litmuscore.directory") 923, none, .ref 445, .none, 0⟩, #[]⟩
def o445 (w : World) : Obj := ⟨.type "code", none, .fields #[.str (Str.ofString "invalidated") 944, .str (Str.ofString "invalidated") 945, .str (Str.ofString "/claim/cut.py") 946, .int (445) 0, .int (2) 0, .int (0) 0, .int (0) 0, .int (3) 0, .ref 442, .bool true, .int (181) 0, .ref 443, .none, .none, .none, .ref 444, .int (947) 0, .int (445) 0, .str (Str.ofString "/claim/cut.py") 948], #[]⟩
def o453 (w : World) : Obj := ⟨.type "function", none, .func ⟨(Str.ofString "returned"), (Str.ofString "returned"), defArgs (top 85), .stmts (defBody (top 85)), defScope (top 85), 3, [], .none, .none, .none, .str (Str.ofString "litmuscore.directory") 923, none, .ref 452, .none, 0⟩, #[]⟩
def o452 (w : World) : Obj := ⟨.type "code", none, .fields #[.str (Str.ofString "returned") 950, .str (Str.ofString "returned") 951, .str (Str.ofString "/claim/cut.py") 952, .int (451) 0, .int (2) 0, .int (0) 0, .int (0) 0, .int (3) 0, .ref 447, .bool true, .int (181) 0, .ref 448, .none, .ref 449, .ref 450, .ref 451, .int (961) 0, .int (451) 0, .str (Str.ofString "/claim/cut.py") 962], #[]⟩
def o460 (w : World) : Obj := ⟨.type "function", none, .func ⟨(Str.ofString "grant_if_ready"), (Str.ofString "grant_if_ready"), defArgs (top 86), .stmts (defBody (top 86)), defScope (top 86), 3, [], .none, .none, .none, .str (Str.ofString "litmuscore.directory") 923, none, .ref 459, .none, 0⟩, #[]⟩
def o459 (w : World) : Obj := ⟨.type "code", none, .fields #[.str (Str.ofString "grant_if_ready") 964, .str (Str.ofString "grant_if_ready") 965, .str (Str.ofString "/claim/cut.py") 966, .int (456) 0, .int (3) 0, .int (0) 0, .int (0) 0, .int (3) 0, .ref 454, .bool true, .int (181) 0, .ref 455, .none, .ref 456, .ref 457, .ref 458, .int (980) 0, .int (456) 0, .str (Str.ofString "/claim/cut.py") 981], #[]⟩
def o467 (w : World) : Obj := ⟨.type "function", none, .func ⟨(Str.ofString "home_receives"), (Str.ofString "home_receives"), defArgs (top 87), .stmts (defBody (top 87)), defScope (top 87), 3, [], .none, .none, .none, .str (Str.ofString "litmuscore.directory") 923, none, .ref 466, .none, 0⟩, #[]⟩
def o466 (w : World) : Obj := ⟨.type "code", none, .fields #[.str (Str.ofString "home_receives") 983, .str (Str.ofString "home_receives") 984, .str (Str.ofString "/claim/cut.py") 985, .int (470) 0, .int (4) 0, .int (0) 0, .int (0) 0, .int (3) 0, .ref 461, .bool true, .int (181) 0, .ref 462, .none, .ref 463, .ref 464, .ref 465, .int (998) 0, .int (470) 0, .str (Str.ofString "/claim/cut.py") 999], #[]⟩
def o515 (w : World) : Obj := ⟨.type "function", none, .func ⟨(Str.ofString "replaced"), (Str.ofString "replaced"), defArgs (top 100), .stmts (defBody (top 100)), defScope (top 100), 3, [], .none, .none, .none, .str (Str.ofString "litmuscore.machine") 1074, none, .ref 514, .none, 0⟩, #[]⟩
def o514 (w : World) : Obj := ⟨.type "code", none, .fields #[.str (Str.ofString "replaced") 1091, .str (Str.ofString "replaced") 1092, .str (Str.ofString "/claim/cut.py") 1093, .int (543) 0, .int (3) 0, .int (0) 0, .int (0) 0, .int (3) 0, .ref 509, .bool true, .int (181) 0, .ref 510, .none, .ref 511, .ref 512, .ref 513, .int (1097) 0, .int (543) 0, .str (Str.ofString "/claim/cut.py") 1098], #[]⟩
def o475 (w : World) : Obj := ⟨.type "function", none, .func ⟨(Str.ofString "replaced"), (Str.ofString "replaced"), defArgs (top 90), .stmts (defBody (top 90)), defScope (top 90), 3, [], .none, .none, .none, .str (Str.ofString "litmuscore.network") 1001, none, .ref 474, .none, 0⟩, #[]⟩
def o474 (w : World) : Obj := ⟨.type "code", none, .fields #[.str (Str.ofString "replaced") 1008, .str (Str.ofString "replaced") 1009, .str (Str.ofString "/claim/cut.py") 1010, .int (492) 0, .int (3) 0, .int (0) 0, .int (0) 0, .int (3) 0, .ref 469, .bool true, .int (181) 0, .ref 470, .none, .ref 471, .ref 472, .ref 473, .int (1014) 0, .int (492) 0, .str (Str.ofString "/claim/cut.py") 1015], #[]⟩
def o480 (w : World) : Obj := ⟨.type "function", none, .func ⟨(Str.ofString "start_system"), (Str.ofString "start_system"), defArgs (top 92), .stmts (defBody (top 92)), defScope (top 92), 3, [], .none, .none, .none, .str (Str.ofString "litmuscore.network") 1001, none, .ref 479, .none, 0⟩, #[]⟩
def o479 (w : World) : Obj := ⟨.type "code", none, .fields #[.str (Str.ofString "start_system") 1018, .str (Str.ofString "start_system") 1019, .str (Str.ofString "/claim/cut.py") 1020, .int (495) 0, .int (2) 0, .int (0) 0, .int (0) 0, .int (3) 0, .ref 476, .bool true, .int (181) 0, .ref 477, .none, .none, .none, .ref 478, .int (1021) 0, .int (495) 0, .str (Str.ofString "/claim/cut.py") 1022], #[]⟩
def o487 (w : World) : Obj := ⟨.type "function", none, .func ⟨(Str.ofString "deliverable"), (Str.ofString "deliverable"), defArgs (top 93), .stmts (defBody (top 93)), defScope (top 93), 3, [], .none, .none, .none, .str (Str.ofString "litmuscore.network") 1001, none, .ref 486, .none, 0⟩, #[]⟩
def o486 (w : World) : Obj := ⟨.type "code", none, .fields #[.str (Str.ofString "deliverable") 1024, .str (Str.ofString "deliverable") 1025, .str (Str.ofString "/claim/cut.py") 1026, .int (500) 0, .int (1) 0, .int (0) 0, .int (0) 0, .int (3) 0, .ref 481, .bool true, .int (181) 0, .ref 482, .none, .ref 483, .ref 484, .ref 485, .int (1033) 0, .int (500) 0, .str (Str.ofString "/claim/cut.py") 1034], #[]⟩
def o494 (w : World) : Obj := ⟨.type "function", none, .func ⟨(Str.ofString "delivered"), (Str.ofString "delivered"), defArgs (top 94), .stmts (defBody (top 94)), defScope (top 94), 3, [], .none, .none, .none, .str (Str.ofString "litmuscore.network") 1001, none, .ref 493, .none, 0⟩, #[]⟩
def o493 (w : World) : Obj := ⟨.type "code", none, .fields #[.str (Str.ofString "delivered") 1036, .str (Str.ofString "delivered") 1037, .str (Str.ofString "/claim/cut.py") 1038, .int (507) 0, .int (3) 0, .int (0) 0, .int (0) 0, .int (3) 0, .ref 488, .bool true, .int (181) 0, .ref 489, .none, .ref 490, .ref 491, .ref 492, .int (1055) 0, .int (507) 0, .str (Str.ofString "/claim/cut.py") 1056], #[]⟩
def o501 (w : World) : Obj := ⟨.type "function", none, .func ⟨(Str.ofString "next_system"), (Str.ofString "next_system"), defArgs (top 95), .stmts (defBody (top 95)), defScope (top 95), 3, [], .none, .none, .none, .str (Str.ofString "litmuscore.network") 1001, none, .ref 500, .none, 0⟩, #[]⟩
def o500 (w : World) : Obj := ⟨.type "code", none, .fields #[.str (Str.ofString "next_system") 1058, .str (Str.ofString "next_system") 1059, .str (Str.ofString "/claim/cut.py") 1060, .int (520) 0, .int (3) 0, .int (0) 0, .int (0) 0, .int (3) 0, .ref 495, .bool true, .int (181) 0, .ref 496, .none, .ref 497, .ref 498, .ref 499, .int (1071) 0, .int (520) 0, .str (Str.ofString "/claim/cut.py") 1072], #[]⟩
def o508 (w : World) : Obj := ⟨.type "function", none, .func ⟨(Str.ofString "start_machine"), (Str.ofString "start_machine"), defArgs (top 99), .stmts (defBody (top 99)), defScope (top 99), 3, [], .none, .none, .none, .str (Str.ofString "litmuscore.machine") 1074, none, .ref 507, .none, 0⟩, #[]⟩
def o507 (w : World) : Obj := ⟨.type "code", none, .fields #[.str (Str.ofString "start_machine") 1085, .str (Str.ofString "start_machine") 1086, .str (Str.ofString "/claim/cut.py") 1087, .int (539) 0, .int (2) 0, .int (0) 0, .int (0) 0, .int (3) 0, .ref 504, .bool true, .int (181) 0, .ref 505, .none, .none, .none, .ref 506, .int (1088) 0, .int (539) 0, .str (Str.ofString "/claim/cut.py") 1089], #[]⟩
def o522 (w : World) : Obj := ⟨.type "function", none, .func ⟨(Str.ofString "with_core"), (Str.ofString "with_core"), defArgs (top 102), .stmts (defBody (top 102)), defScope (top 102), 3, [], .none, .none, .none, .str (Str.ofString "litmuscore.machine") 1074, none, .ref 521, .none, 0⟩, #[]⟩
def o521 (w : World) : Obj := ⟨.type "code", none, .fields #[.str (Str.ofString "with_core") 1101, .str (Str.ofString "with_core") 1102, .str (Str.ofString "/claim/cut.py") 1103, .int (546) 0, .int (4) 0, .int (0) 0, .int (0) 0, .int (3) 0, .ref 516, .bool true, .int (181) 0, .ref 517, .none, .ref 518, .ref 519, .ref 520, .int (1117) 0, .int (546) 0, .str (Str.ofString "/claim/cut.py") 1118], #[]⟩
def o529 (w : World) : Obj := ⟨.type "function", none, .func ⟨(Str.ofString "after_inner"), (Str.ofString "after_inner"), defArgs (top 103), .stmts (defBody (top 103)), defScope (top 103), 3, [], .none, .none, .none, .str (Str.ofString "litmuscore.machine") 1074, none, .ref 528, .none, 0⟩, #[]⟩
def o528 (w : World) : Obj := ⟨.type "code", none, .fields #[.str (Str.ofString "after_inner") 1120, .str (Str.ofString "after_inner") 1121, .str (Str.ofString "/claim/cut.py") 1122, .int (551) 0, .int (4) 0, .int (0) 0, .int (0) 0, .int (3) 0, .ref 523, .bool true, .int (181) 0, .ref 524, .none, .ref 525, .ref 526, .ref 527, .int (1131) 0, .int (551) 0, .str (Str.ofString "/claim/cut.py") 1132], #[]⟩
def o536 (w : World) : Obj := ⟨.type "function", none, .func ⟨(Str.ofString "after_commit"), (Str.ofString "after_commit"), defArgs (top 104), .stmts (defBody (top 104)), defScope (top 104), 3, [], .none, .none, .none, .str (Str.ofString "litmuscore.machine") 1074, none, .ref 535, .none, 0⟩, #[]⟩
def o535 (w : World) : Obj := ⟨.type "code", none, .fields #[.str (Str.ofString "after_commit") 1134, .str (Str.ofString "after_commit") 1135, .str (Str.ofString "/claim/cut.py") 1136, .int (565) 0, .int (3) 0, .int (0) 0, .int (0) 0, .int (3) 0, .ref 530, .bool true, .int (181) 0, .ref 531, .none, .ref 532, .ref 533, .ref 534, .int (1151) 0, .int (565) 0, .str (Str.ofString "/claim/cut.py") 1152], #[]⟩
def o543 (w : World) : Obj := ⟨.type "function", none, .func ⟨(Str.ofString "after_drain"), (Str.ofString "after_drain"), defArgs (top 105), .stmts (defBody (top 105)), defScope (top 105), 3, [], .none, .none, .none, .str (Str.ofString "litmuscore.machine") 1074, none, .ref 542, .none, 0⟩, #[]⟩
def o542 (w : World) : Obj := ⟨.type "code", none, .fields #[.str (Str.ofString "after_drain") 1154, .str (Str.ofString "after_drain") 1155, .str (Str.ofString "/claim/cut.py") 1156, .int (577) 0, .int (4) 0, .int (0) 0, .int (0) 0, .int (3) 0, .ref 537, .bool true, .int (181) 0, .ref 538, .none, .ref 539, .ref 540, .ref 541, .int (1170) 0, .int (577) 0, .str (Str.ofString "/claim/cut.py") 1171], #[]⟩
def o550 (w : World) : Obj := ⟨.type "function", none, .func ⟨(Str.ofString "changed_machine"), (Str.ofString "changed_machine"), defArgs (top 106), .stmts (defBody (top 106)), defScope (top 106), 3, [], .none, .none, .none, .str (Str.ofString "litmuscore.machine") 1074, none, .ref 549, .none, 0⟩, #[]⟩
def o549 (w : World) : Obj := ⟨.type "code", none, .fields #[.str (Str.ofString "changed_machine") 1173, .str (Str.ofString "changed_machine") 1174, .str (Str.ofString "/claim/cut.py") 1175, .int (584) 0, .int (4) 0, .int (0) 0, .int (0) 0, .int (3) 0, .ref 544, .bool true, .int (181) 0, .ref 545, .none, .ref 546, .ref 547, .ref 548, .int (1185) 0, .int (584) 0, .str (Str.ofString "/claim/cut.py") 1186], #[]⟩
def o555 (w : World) : Obj := ⟨.type "function", none, .func ⟨(Str.ofString "after_action"), (Str.ofString "after_action"), defArgs (top 107), .stmts (defBody (top 107)), defScope (top 107), 3, [], .none, .none, .none, .str (Str.ofString "litmuscore.machine") 1074, none, .ref 554, .none, 0⟩, #[]⟩
def o554 (w : World) : Obj := ⟨.type "code", none, .fields #[.str (Str.ofString "after_action") 1188, .str (Str.ofString "after_action") 1189, .str (Str.ofString "/claim/cut.py") 1190, .int (600) 0, .int (4) 0, .int (0) 0, .int (0) 0, .int (3) 0, .ref 551, .bool true, .int (181) 0, .ref 552, .none, .none, .none, .ref 553, .int (1191) 0, .int (600) 0, .str (Str.ofString "/claim/cut.py") 1192], #[]⟩
def o562 (w : World) : Obj := ⟨.type "function", none, .func ⟨(Str.ofString "obtain"), (Str.ofString "obtain"), defArgs (top 109), .stmts (defBody (top 109)), defScope (top 109), 3, [], .none, .none, .none, .str (Str.ofString "litmuscore.service") 1194, none, .ref 561, .none, 0⟩, #[]⟩
def o561 (w : World) : Obj := ⟨.type "code", none, .fields #[.str (Str.ofString "obtain") 1196, .str (Str.ofString "obtain") 1197, .str (Str.ofString "/claim/cut.py") 1198, .int (608) 0, .int (5) 0, .int (0) 0, .int (0) 0, .int (3) 0, .ref 556, .bool true, .int (181) 0, .ref 557, .none, .ref 558, .ref 559, .ref 560, .int (1209) 0, .int (608) 0, .str (Str.ofString "/claim/cut.py") 1210], #[]⟩
def o591 (w : World) : Obj := ⟨.type "function", none, .func ⟨(Str.ofString "_law_tape"), (Str.ofString "_law_tape"), defArgs (top 113), .stmts (defBody (top 113)), defScope (top 113), 3, [], .none, .none, .none, .str (Str.ofString "law_litmuscore_k75_obtain") 1270, none, .ref 590, .none, 0⟩, #[]⟩
def o590 (w : World) : Obj := ⟨.type "code", none, .fields #[.str (Str.ofString "_law_tape") 1272, .str (Str.ofString "_law_tape") 1273, .str (Str.ofString "/claim/cut.py") 1274, .int (634) 0, .int (1) 0, .int (0) 0, .int (0) 0, .int (3) 0, .ref 585, .bool true, .int (181) 0, .ref 586, .none, .ref 587, .ref 588, .ref 589, .int (1278) 0, .int (634) 0, .str (Str.ofString "/claim/cut.py") 1279], #[]⟩
def o598 (w : World) : Obj := ⟨.type "function", none, .func ⟨(Str.ofString "_law_draw"), (Str.ofString "_law_draw"), defArgs (top 114), .stmts (defBody (top 114)), defScope (top 114), 3, [], .none, .none, .none, .str (Str.ofString "law_litmuscore_k75_obtain") 1270, none, .ref 597, .none, 0⟩, #[]⟩
def o597 (w : World) : Obj := ⟨.type "code", none, .fields #[.str (Str.ofString "_law_draw") 1281, .str (Str.ofString "_law_draw") 1282, .str (Str.ofString "/claim/cut.py") 1283, .int (639) 0, .int (2) 0, .int (0) 0, .int (0) 0, .int (3) 0, .ref 592, .bool true, .int (181) 0, .ref 593, .none, .ref 594, .ref 595, .ref 596, .int (1288) 0, .int (639) 0, .str (Str.ofString "/claim/cut.py") 1289], #[]⟩
def o605 (w : World) : Obj := ⟨.type "function", none, .func ⟨(Str.ofString "_law_fresh"), (Str.ofString "_law_fresh"), defArgs (top 115), .stmts (defBody (top 115)), defScope (top 115), 3, [], .none, .none, .none, .str (Str.ofString "law_litmuscore_k75_obtain") 1270, none, .ref 604, .none, 0⟩, #[]⟩
def o604 (w : World) : Obj := ⟨.type "code", none, .fields #[.str (Str.ofString "_law_fresh") 1291, .str (Str.ofString "_law_fresh") 1292, .str (Str.ofString "/claim/cut.py") 1293, .int (657) 0, .int (2) 0, .int (0) 0, .int (0) 0, .int (3) 0, .ref 599, .bool true, .int (181) 0, .ref 600, .none, .ref 601, .ref 602, .ref 603, .int (1298) 0, .int (657) 0, .str (Str.ofString "/claim/cut.py") 1299], #[]⟩
def o612 (w : World) : Obj := ⟨.type "function", none, .func ⟨(Str.ofString "_law_same"), (Str.ofString "_law_same"), defArgs (top 116), .stmts (defBody (top 116)), defScope (top 116), 3, [], .none, .none, .none, .str (Str.ofString "law_litmuscore_k75_obtain") 1270, none, .ref 611, .none, 0⟩, #[]⟩
def o611 (w : World) : Obj := ⟨.type "code", none, .fields #[.str (Str.ofString "_law_same") 1301, .str (Str.ofString "_law_same") 1302, .str (Str.ofString "/claim/cut.py") 1303, .int (665) 0, .int (2) 0, .int (0) 0, .int (0) 0, .int (3) 0, .ref 606, .bool true, .int (181) 0, .ref 607, .none, .ref 608, .ref 609, .ref 610, .int (1307) 0, .int (665) 0, .str (Str.ofString "/claim/cut.py") 1308], #[]⟩
def o617 (w : World) : Obj := ⟨.type "function", none, .func ⟨(Str.ofString "_law_obtained"), (Str.ofString "_law_obtained"), defArgs (top 117), .stmts (defBody (top 117)), defScope (top 117), 3, [], .none, .none, .none, .str (Str.ofString "law_litmuscore_k75_obtain") 1270, none, .ref 616, .none, 0⟩, #[]⟩
def o616 (w : World) : Obj := ⟨.type "code", none, .fields #[.str (Str.ofString "_law_obtained") 1310, .str (Str.ofString "_law_obtained") 1311, .str (Str.ofString "/claim/cut.py") 1312, .int (680) 0, .int (5) 0, .int (0) 0, .int (0) 0, .int (3) 0, .ref 613, .bool true, .int (181) 0, .ref 614, .none, .none, .none, .ref 615, .int (1313) 0, .int (680) 0, .str (Str.ofString "/claim/cut.py") 1314], #[]⟩
def o624 (w : World) : Obj := ⟨.type "function", none, .func ⟨(Str.ofString "_law_config"), (Str.ofString "_law_config"), defArgs (top 118), .stmts (defBody (top 118)), defScope (top 118), 3, [], .none, .none, .none, .str (Str.ofString "law_litmuscore_k75_obtain") 1270, none, .ref 623, .none, 0⟩, #[]⟩
def o623 (w : World) : Obj := ⟨.type "code", none, .fields #[.str (Str.ofString "_law_config") 1316, .str (Str.ofString "_law_config") 1317, .str (Str.ofString "/claim/cut.py") 1318, .int (693) 0, .int (2) 0, .int (0) 0, .int (0) 0, .int (3) 0, .ref 618, .bool true, .int (181) 0, .ref 619, .none, .ref 620, .ref 621, .ref 622, .int (1322) 0, .int (693) 0, .str (Str.ofString "/claim/cut.py") 1323], #[]⟩
def o631 (w : World) : Obj := ⟨.type "function", none, .func ⟨(Str.ofString "_law_action"), (Str.ofString "_law_action"), defArgs (top 119), .stmts (defBody (top 119)), defScope (top 119), 3, [], .none, .none, .none, .str (Str.ofString "law_litmuscore_k75_obtain") 1270, none, .ref 630, .none, 0⟩, #[]⟩
def o630 (w : World) : Obj := ⟨.type "code", none, .fields #[.str (Str.ofString "_law_action") 1325, .str (Str.ofString "_law_action") 1326, .str (Str.ofString "/claim/cut.py") 1327, .int (696) 0, .int (3) 0, .int (0) 0, .int (0) 0, .int (3) 0, .ref 625, .bool true, .int (181) 0, .ref 626, .none, .ref 627, .ref 628, .ref 629, .int (1334) 0, .int (696) 0, .str (Str.ofString "/claim/cut.py") 1335], #[]⟩
def o638 (w : World) : Obj := ⟨.type "function", none, .func ⟨(Str.ofString "law"), (Str.ofString "law"), defArgs (top 120), .stmts (defBody (top 120)), defScope (top 120), 3, [], .none, .none, .none, .str (Str.ofString "law_litmuscore_k75_obtain") 1270, none, .ref 637, .none, 0⟩, #[]⟩
def o637 (w : World) : Obj := ⟨.type "code", none, .fields #[.str (Str.ofString "law") 1337, .str (Str.ofString "law") 1338, .str (Str.ofString "/claim/cut.py") 1339, .int (705) 0, .int (1) 0, .int (0) 0, .int (0) 0, .int (3) 0, .ref 632, .bool true, .int (181) 0, .ref 633, .none, .ref 634, .ref 635, .ref 636, .int (1358) 0, .int (705) 0, .str (Str.ofString "/claim/cut.py") 1359], #[]⟩
def o15 (w : World) : Obj := ⟨.type "tuple", none, .seq #[.str (Str.ofString "fence") 189] 0, #[]⟩
def o52 (w : World) : Obj := ⟨.type "tuple", none, .seq #[.ref 49, .ref 50, .ref 51] 0, #[]⟩
def o49 (w : World) : Obj := ⟨.type "tuple", none, .seq #[] 0, #[]⟩
def o50 (w : World) : Obj := ⟨.type "tuple", none, .seq #[] 0, #[]⟩
def o51 (w : World) : Obj := ⟨.type "tuple", none, .seq #[] 0, #[]⟩
def o124 (w : World) : Obj := ⟨.type "tuple", none, .seq #[.str (Str.ofString "add") 369, .str (Str.ofString "sub") 370, .str (Str.ofString "mul") 371, .str (Str.ofString "and") 372, .str (Str.ofString "or") 373, .str (Str.ofString "xor") 374, .str (Str.ofString "slt") 375, .str (Str.ofString "sltu") 376] 0, #[]⟩
def o146 (w : World) : Obj := ⟨.type "tuple", none, .seq #[.int (0) 405, .bool false] 0, #[]⟩
def o147 (w : World) : Obj := ⟨.type "tuple", none, .seq #[.int (0) 410, .int (0) 411, .int (0) 412, .int (0) 413, .int (0) 414, .int (0) 415, .int (0) 416, .int (0) 417] 0, #[]⟩
def o148 (w : World) : Obj := ⟨.type "tuple", none, .seq #[.str (Str.ofString "swap") 419, .str (Str.ofString "fetch add") 420, .str (Str.ofString "load linked") 421, .str (Str.ofString "store conditional") 422] 0, #[]⟩
def o206 (w : World) : Obj := ⟨.type "tuple", none, .seq #[.str (Str.ofString "loads") 507, .str (Str.ofString "full") 508] 0, #[]⟩
def o428 (w : World) : Obj := ⟨.type "tuple", none, .seq #[.none, .ref 427, .none] 0, #[]⟩
def o427 (w : World) : Obj := ⟨.type "tuple", none, .seq #[] 0, #[]⟩
def o429 (w : World) : Obj := ⟨.type "tuple", none, .seq #[.str (Str.ofString "get shared") 926, .str (Str.ofString "get modified") 927, .str (Str.ofString "give up") 928] 0, #[]⟩
def o468 (w : World) : Obj := ⟨.type "tuple", none, .seq #[.str (Str.ofString "invalidate") 1003, .str (Str.ofString "recall") 1004, .str (Str.ofString "grant") 1005, .str (Str.ofString "confirm") 1006] 0, #[]⟩
def o502 (w : World) : Obj := ⟨.type "tuple", none, .seq #[.str (Str.ofString "request") 1076, .str (Str.ofString "evict") 1077, .str (Str.ofString "deliver") 1078] 0, #[]⟩
def o503 (w : World) : Obj := ⟨.type "tuple", none, .seq #[.str (Str.ofString "execute") 1080, .str (Str.ofString "resolve") 1081, .str (Str.ofString "load") 1082, .str (Str.ofString "drain") 1083] 0, #[]⟩
def o580 (w : World) : Obj := ⟨.type "type", none, .cls ⟨(Str.ofString "Config"), [.type "object"], [.ref 580, .type "object"], 579, (Str.ofString "Config"), true, [], [], false, none, false⟩, #[none, none, some (.str (Str.ofString "Config") 1214), some (.str (Str.ofString "Config") 1222), some (.builtin "object.__new__"), some (.bool true)]⟩
def o579 (w : World) : Obj := ⟨.type "dict", none, .dict #[de w (Str.ofString "__module__") 1221 (.str (Str.ofString "litmuscore.configs") 1212), de w (Str.ofString "__firstlineno__") 1225 (.int (622) 1224), de w (Str.ofString "__init__") 1253 (.ref 577), de w (Str.ofString "__static_attributes__") 1262 (.ref 578), de w (Str.ofString "__dict__") 1264 (.ref 581), de w (Str.ofString "__weakref__") 1266 (.ref 582), de w (Str.ofString "__doc__") 1267 (.none)] 4, #[]⟩
def o577 (w : World) : Obj := ⟨.type "function", none, .func ⟨(Str.ofString "__init__"), (Str.ofString "Config.__init__"), defArgs (meth 111 0), .stmts (defBody (meth 111 0)), defScope (meth 111 0), 3, [], .none, .ref 570, .none, .str (Str.ofString "litmuscore.configs") 1212, none, .ref 576, .none, 0⟩, #[]⟩
def o570 (w : World) : Obj := ⟨.type "dict", none, .dict #[de w (Str.ofString "reorder_buffer") 1232 (.int (4) 1226), de w (Str.ofString "store_buffer") 1233 (.int (2) 1227), de w (Str.ofString "line_words") 1234 (.int (1) 1228), de w (Str.ofString "sets") 1235 (.int (1) 1229), de w (Str.ofString "ways") 1236 (.int (4) 1230), de w (Str.ofString "requests") 1237 (.int (1) 1231), de w (Str.ofString "exclusive_state") 1238 (.bool true)] 7, #[]⟩
def o576 (w : World) : Obj := ⟨.type "code", none, .fields #[.str (Str.ofString "__init__") 1239, .str (Str.ofString "Config.__init__") 1240, .str (Str.ofString "/claim/cut.py") 1241, .int (624) 0, .int (2) 0, .int (0) 0, .int (7) 0, .int (3) 0, .ref 571, .bool true, .int (181) 0, .ref 572, .none, .ref 573, .ref 574, .ref 575, .int (1251) 0, .int (624) 0, .str (Str.ofString "/claim/cut.py") 1252], #[]⟩
def kl0 (w : World) : PySem.W.Frag := [(3, o3 w), (20, o20 w), (19, o19 w), (27, o27 w), (26, o26 w), (34, o34 w), (33, o33 w), (41, o41 w), (40, o40 w), (48, o48 w), (47, o47 w), (59, o59 w), (58, o58 w), (64, o64 w), (63, o63 w), (255, o255 w), (254, o254 w), (69, o69 w), (68, o68 w), (74, o74 w), (73, o73 w), (81, o81 w), (80, o80 w), (88, o88 w), (87, o87 w), (95, o95 w), (94, o94 w), (102, o102 w), (101, o101 w), (109, o109 w), (108, o108 w), (116, o116 w), (115, o115 w), (123, o123 w), (122, o122 w), (131, o131 w), (130, o130 w), (138, o138 w), (137, o137 w), (145, o145 w)]
def as0 : List Addr := [3, 20, 19, 27, 26, 34, 33, 41, 40, 48, 47, 59, 58, 64, 63, 255, 254, 69, 68, 74, 73, 81, 80, 88, 87, 95, 94, 102, 101, 109, 108, 116, 115, 123, 122, 131, 130, 138, 137, 145]
def kl1 (w : World) : PySem.W.Frag := [(144, o144 w), (156, o156 w), (155, o155 w), (163, o163 w), (162, o162 w), (170, o170 w), (169, o169 w), (177, o177 w), (176, o176 w), (184, o184 w), (183, o183 w), (191, o191 w), (190, o190 w), (198, o198 w), (197, o197 w), (205, o205 w), (204, o204 w), (213, o213 w), (212, o212 w), (220, o220 w), (219, o219 w), (227, o227 w), (226, o226 w), (234, o234 w), (233, o233 w), (241, o241 w), (240, o240 w), (248, o248 w), (247, o247 w), (262, o262 w), (261, o261 w), (269, o269 w), (268, o268 w), (276, o276 w), (275, o275 w), (283, o283 w), (282, o282 w), (288, o288 w), (287, o287 w), (295, o295 w)]
def as1 : List Addr := [144, 156, 155, 163, 162, 170, 169, 177, 176, 184, 183, 191, 190, 198, 197, 205, 204, 213, 212, 220, 219, 227, 226, 234, 233, 241, 240, 248, 247, 262, 261, 269, 268, 276, 275, 283, 282, 288, 287, 295]
def kl2 (w : World) : PySem.W.Frag := [(294, o294 w), (302, o302 w), (301, o301 w), (309, o309 w), (308, o308 w), (316, o316 w), (315, o315 w), (321, o321 w), (320, o320 w), (328, o328 w), (327, o327 w), (335, o335 w), (334, o334 w), (342, o342 w), (341, o341 w), (349, o349 w), (348, o348 w), (356, o356 w), (355, o355 w), (363, o363 w), (362, o362 w), (370, o370 w), (369, o369 w), (377, o377 w), (376, o376 w), (384, o384 w), (383, o383 w), (391, o391 w), (390, o390 w), (398, o398 w), (397, o397 w), (405, o405 w), (404, o404 w), (412, o412 w), (411, o411 w), (419, o419 w), (418, o418 w), (426, o426 w), (425, o425 w), (436, o436 w)]
def as2 : List Addr := [294, 302, 301, 309, 308, 316, 315, 321, 320, 328, 327, 335, 334, 342, 341, 349, 348, 356, 355, 363, 362, 370, 369, 377, 376, 384, 383, 391, 390, 398, 397, 405, 404, 412, 411, 419, 418, 426, 425, 436]
def kl3 (w : World) : PySem.W.Frag := [(435, o435 w), (441, o441 w), (440, o440 w), (446, o446 w), (445, o445 w), (453, o453 w), (452, o452 w), (460, o460 w), (459, o459 w), (467, o467 w), (466, o466 w), (515, o515 w), (514, o514 w), (475, o475 w), (474, o474 w), (480, o480 w), (479, o479 w), (487, o487 w), (486, o486 w), (494, o494 w), (493, o493 w), (501, o501 w), (500, o500 w), (508, o508 w), (507, o507 w), (522, o522 w), (521, o521 w), (529, o529 w), (528, o528 w), (536, o536 w), (535, o535 w), (543, o543 w), (542, o542 w), (550, o550 w), (549, o549 w), (555, o555 w), (554, o554 w), (562, o562 w), (561, o561 w), (591, o591 w)]
def as3 : List Addr := [435, 441, 440, 446, 445, 453, 452, 460, 459, 467, 466, 515, 514, 475, 474, 480, 479, 487, 486, 494, 493, 501, 500, 508, 507, 522, 521, 529, 528, 536, 535, 543, 542, 550, 549, 555, 554, 562, 561, 591]
def kl4 (w : World) : PySem.W.Frag := [(590, o590 w), (598, o598 w), (597, o597 w), (605, o605 w), (604, o604 w), (612, o612 w), (611, o611 w), (617, o617 w), (616, o616 w), (624, o624 w), (623, o623 w), (631, o631 w), (630, o630 w), (638, o638 w), (637, o637 w), (15, o15 w), (52, o52 w), (49, o49 w), (50, o50 w), (51, o51 w), (124, o124 w), (146, o146 w), (147, o147 w), (148, o148 w), (206, o206 w), (428, o428 w), (427, o427 w), (429, o429 w), (468, o468 w), (502, o502 w), (503, o503 w), (580, o580 w), (579, o579 w), (577, o577 w), (570, o570 w), (576, o576 w)]
def as4 : List Addr := [590, 598, 597, 605, 604, 612, 611, 617, 616, 624, 623, 631, 630, 638, 637, 15, 52, 49, 50, 51, 124, 146, 147, 148, 206, 428, 427, 429, 468, 502, 503, 580, 579, 577, 570, 576]
def KL (w : World) : PySem.W.Frag := (kl0 w : List (Addr × Obj)) ++ (kl1 w : List (Addr × Obj)) ++ (kl2 w : List (Addr × Obj)) ++ (kl3 w : List (Addr × Obj)) ++ (kl4 w : List (Addr × Obj))
def addrs : List Addr := as0 ++ as1 ++ as2 ++ as3 ++ as4
theorem kl_as (w : World) : List.map (fun p : Addr × Obj => p.1) (KL w) = addrs := rfl
theorem says (w : World) : SaysN csN fa fn (KL w) := by
  have h1 : csN.all (conB (KL w)) = true := by kernel_rfl
  have h2 : He.obsD fa fn (KL w) = He.valD fn := by kernel_rfl
  have h3 : (List.all (KL w) fun p : Addr × Obj => noL p.2) = true := by kernel_rfl
  exact ⟨List.all_eq_true.mp h1, h2, fun a o e => List.all_eq_true.mp h3 (a, o) (mem_lookup e)⟩
abbrev R : PySem.W.OpenRow := PySem.W.OpenLaw.row PySem.Challenge.rw_litmuscore_k75_obtain
abbrev hk : PySem.W.Hook := hookL addrs KL kl_as
def ob (s : PySem.W.SharedT) : List (Option Obj) := addrs.map (HandSHeadRun.getT s)
theorem ob_eq (s : PySem.W.SharedT) : ob s = hk.obs s.abs := by
  show addrs.map _ = addrs.map _
  exact congrArg (List.map · addrs) (funext (HandSHeadRun.getT_eq s))
theorem run_t (w : World) : HandSHeadRun.RunEq R (PySem.W.view R.prog [120]) hk ob 5000 loose (w.withFollow "special-get-raises" true) := by
  intro os
  kernel_rfl
theorem run_f (w : World) : HandSHeadRun.RunEq R (PySem.W.view R.prog [120]) hk ob 5000 loose (w.withFollow "special-get-raises" false) := by
  intro os
  kernel_rfl
theorem run : ∀ w : World, HandSHeadRun.RunEq R (PySem.W.view R.prog [120]) hk ob 5000 loose w := PySem.W.byRow2 "special-get-raises" run_f run_t
end K75

set_option Elab.async false
set_option linter.all false
set_option maxRecDepth 100000
set_option maxHeartbeats 400000
namespace K75
open PySem PySem.Spec PyProof.Rows L2 Ev
theorem ent_all : ∀ e ∈ ents, BindP e.d.params e.ps ∧ entC tb pp e = true :=List.forall_mem_cons.2 ⟨⟨b0, c0⟩, List.forall_mem_cons.2 ⟨⟨b1, c1⟩, List.forall_mem_cons.2 ⟨⟨b2, c2⟩, List.forall_mem_cons.2 ⟨⟨b3, c3⟩, List.forall_mem_cons.2 ⟨⟨b4, c4⟩, List.forall_mem_cons.2 ⟨⟨b5, c5⟩, List.forall_mem_cons.2 ⟨⟨b6, c6⟩, List.forall_mem_cons.2 ⟨⟨b7, c7⟩, List.forall_mem_cons.2 ⟨⟨b8, c8⟩, List.forall_mem_cons.2 ⟨⟨b9, c9⟩, List.forall_mem_cons.2 ⟨⟨b10, c10⟩, List.forall_mem_cons.2 ⟨⟨b11, c11⟩, List.forall_mem_cons.2 ⟨⟨b12, c12⟩, List.forall_mem_cons.2 ⟨⟨b13, c13⟩, List.forall_mem_cons.2 ⟨⟨b14, c14⟩, List.forall_mem_cons.2 ⟨⟨b15, c15⟩, List.forall_mem_cons.2 ⟨⟨b16, c16⟩, List.forall_mem_cons.2 ⟨⟨b17, c17⟩, List.forall_mem_cons.2 ⟨⟨b18, c18⟩, List.forall_mem_cons.2 ⟨⟨b19, c19⟩, List.forall_mem_cons.2 ⟨⟨b20, c20⟩, List.forall_mem_cons.2 ⟨⟨b21, c21⟩, List.forall_mem_cons.2 ⟨⟨b22, c22⟩, List.forall_mem_cons.2 ⟨⟨b23, c23⟩, List.forall_mem_cons.2 ⟨⟨b24, c24⟩, List.forall_mem_cons.2 ⟨⟨b25, c25⟩, List.forall_mem_cons.2 ⟨⟨b26, c26⟩, List.forall_mem_cons.2 ⟨⟨b27, c27⟩, List.forall_mem_cons.2 ⟨⟨b28, c28⟩, List.forall_mem_cons.2 ⟨⟨b29, c29⟩, List.forall_mem_cons.2 ⟨⟨b30, c30⟩, List.forall_mem_cons.2 ⟨⟨b31, c31⟩, List.forall_mem_cons.2 ⟨⟨b32, c32⟩, List.forall_mem_cons.2 ⟨⟨b33, c33⟩, List.forall_mem_cons.2 ⟨⟨b34, c34⟩, List.forall_mem_cons.2 ⟨⟨b35, c35⟩, List.forall_mem_cons.2 ⟨⟨b36, c36⟩, List.forall_mem_cons.2 ⟨⟨b37, c37⟩, List.forall_mem_cons.2 ⟨⟨b38, c38⟩, List.forall_mem_cons.2 ⟨⟨b39, c39⟩, List.forall_mem_cons.2 ⟨⟨b40, c40⟩, List.forall_mem_cons.2 ⟨⟨b41, c41⟩, List.forall_mem_cons.2 ⟨⟨b42, c42⟩, List.forall_mem_cons.2 ⟨⟨b43, c43⟩, List.forall_mem_cons.2 ⟨⟨b44, c44⟩, List.forall_mem_cons.2 ⟨⟨b45, c45⟩, List.forall_mem_cons.2 ⟨⟨b46, c46⟩, List.forall_mem_cons.2 ⟨⟨b47, c47⟩, List.forall_mem_cons.2 ⟨⟨b48, c48⟩, List.forall_mem_cons.2 ⟨⟨b49, c49⟩, List.forall_mem_cons.2 ⟨⟨b50, c50⟩, List.forall_mem_cons.2 ⟨⟨b51, c51⟩, List.forall_mem_cons.2 ⟨⟨b52, c52⟩, List.forall_mem_cons.2 ⟨⟨b53, c53⟩, List.forall_mem_cons.2 ⟨⟨b54, c54⟩, List.forall_mem_cons.2 ⟨⟨b55, c55⟩, List.forall_mem_cons.2 ⟨⟨b56, c56⟩, List.forall_mem_cons.2 ⟨⟨b57, c57⟩, List.forall_mem_cons.2 ⟨⟨b58, c58⟩, List.forall_mem_cons.2 ⟨⟨b59, c59⟩, List.forall_mem_cons.2 ⟨⟨b60, c60⟩, List.forall_mem_cons.2 ⟨⟨b61, c61⟩, List.forall_mem_cons.2 ⟨⟨b62, c62⟩, List.forall_mem_cons.2 ⟨⟨b63, c63⟩, List.forall_mem_cons.2 ⟨⟨b64, c64⟩, List.forall_mem_cons.2 ⟨⟨b65, c65⟩, List.forall_mem_cons.2 ⟨⟨b66, c66⟩, List.forall_mem_cons.2 ⟨⟨b67, c67⟩, List.forall_mem_cons.2 ⟨⟨b68, c68⟩, List.forall_mem_cons.2 ⟨⟨b69, c69⟩, List.forall_mem_cons.2 ⟨⟨b70, c70⟩, List.forall_mem_cons.2 ⟨⟨b71, c71⟩, List.forall_mem_cons.2 ⟨⟨b72, c72⟩, List.forall_mem_cons.2 ⟨⟨b73, c73⟩, List.forall_mem_cons.2 ⟨⟨b74, c74⟩, List.forall_mem_cons.2 ⟨⟨b75, c75⟩, List.forall_mem_cons.2 ⟨⟨b76, c76⟩, List.forall_mem_cons.2 ⟨⟨b77, c77⟩, List.forall_mem_cons.2 ⟨⟨b78, c78⟩, List.forall_mem_cons.2 ⟨⟨b79, c79⟩, List.forall_mem_cons.2 ⟨⟨b80, c80⟩, List.forall_mem_cons.2 ⟨⟨b81, c81⟩, List.forall_mem_cons.2 ⟨⟨b82, c82⟩, List.forall_mem_cons.2 ⟨⟨b83, c83⟩, List.forall_mem_cons.2 ⟨⟨b84, c84⟩, List.forall_mem_cons.2 ⟨⟨b85, c85⟩, List.forall_mem_cons.2 ⟨⟨b86, c86⟩, List.forall_mem_cons.2 ⟨⟨b87, c87⟩, List.forall_mem_cons.2 ⟨⟨b88, c88⟩, fun _ h => nomatch h⟩⟩⟩⟩⟩⟩⟩⟩⟩⟩⟩⟩⟩⟩⟩⟩⟩⟩⟩⟩⟩⟩⟩⟩⟩⟩⟩⟩⟩⟩⟩⟩⟩⟩⟩⟩⟩⟩⟩⟩⟩⟩⟩⟩⟩⟩⟩⟩⟩⟩⟩⟩⟩⟩⟩⟩⟩⟩⟩⟩⟩⟩⟩⟩⟩⟩⟩⟩⟩⟩⟩⟩⟩⟩⟩⟩⟩⟩⟩⟩⟩⟩⟩⟩⟩⟩⟩⟩⟩
def ca (K : PySem.W.Frag) (c : Nat) : Addr := match c with
  | 0 => He.ga K "Config"
  | _ => 0

theorem fa_sub (i : Nat) {f : He.Fa} (h : fa[i]? = some f) : f ∈ fa := List.mem_of_getElem? h
theorem glo_in : ∀ e ∈ ents, He.Fa.glo e.x ∈ fa := fun e h => by
  unfold fa
  repeat (first | exact List.mem_map.mpr ⟨e, h, rfl⟩ | apply List.mem_append_left)
theorem free_in : ∀ x ∈ isNames, He.Fa.free x ∈ fa := fun x h => by
  unfold fa
  repeat (first | exact List.mem_append_right _ (List.mem_map.mpr ⟨x, h, rfl⟩) | apply List.mem_append_left)
theorem fn_in : ∀ e ∈ ents, e.d ∈ fn := fun e h => List.mem_append_left _ (List.mem_map.mpr ⟨e, h, rfl⟩)
def ms0 : List (Str × V) := [("reorder_buffer", .int (4)), ("store_buffer", .int (2))]
theorem kb0 {K : PySem.W.Frag} {f : Addr} {fd : FuncData} (F : FunD K i0.name i0.qual i0.params i0.body i0.scope (i0.dvs K) (i0.kws K) f fd) :
    ∃ mv : List Value, KBn K fd (selfN :: gg.cls.getD 0 []) (1 + 1) ["line_words", "sets", "ways", "requests", "exclusive_state"] (fun us ws => us ++ (mv ++ ws)) (fun vs zs => vs ++ (ms0.map (·.2) ++ zs)) :=
  FunD.kbinds0 F (1 + 1) ["line_words", "sets", "ways", "requests", "exclusive_state"] ms0 (fun us mv ws => us ++ (mv ++ ws)) (by intro h; cases h) (fun q hq => by
    have : q ∈ (i0.kws K).take 2 := hq
    exact List.mem_of_mem_take this) (fun r1 r2 r3 => r1.append (r2.append r3)) fun D doc pm an cdv ct us mv ws h1 h2 h3 => match us, mv, ws, h1, h2, h3 with
    | [_, _], [_, _], [_, _, _, _, _], _, _, _ => ⟨_, _, _, _, _, _, rfl, rfl, ⟨_, _, _, _, _, _, rfl, rfl, (by show (_ : Sem (List (Str × Value))) = _; kernel_rfl)⟩⟩
end K75

set_option Elab.async false
set_option linter.all false
set_option maxRecDepth 100000
set_option maxHeartbeats 400000
namespace K75
open PySem PySem.Spec PyProof.Rows L2 Ev
theorem mk0 {w : World} {mg : Str → Option Value} {base : Heap} {K : PySem.W.Frag} (KB : K.In base) (GB : base.Ns mainGlobals mg) (c : SaysN csN fa fn K) :
    MkAt ⟨PySem.Challenge.pw_litmuscore_k75_obtain, w, mg, base, ⟨K, ca K, gg⟩⟩ "Config" 0 1 ["line_words", "sets", "ways", "requests", "exclusive_state"] [3, 4, 5, 6, 7] := by
  obtain ⟨fd, F⟩ := defM c.d (d := i0) (List.mem_append_right _ (List.mem_singleton.mpr rfl))
  obtain ⟨mv, kb⟩ := kb0 F
  have cls := He.cls_ok (factM c.d (f := .cls "Config") (List.mem_append_left _ (List.mem_append_right _ (.tail _ (.head _)))))
  have mk := He.mkr_ok (factM c.d (f := .mkr "Config") (List.mem_append_left _ (List.mem_append_right _ (.tail _ (.tail _ (.head _))))))
  have glo := He.glo_ok KB GB (factM c.d (f := .glo "Config") (List.mem_append_left _ (List.mem_append_right _ (.head _))))
  have na : ∀ f ∈ gg.cls.getD 0 [], NoAttr K (He.ga K "Config") f := fun f hf => He.noat_ok (factM c.d (f := .noat "Config" f) (List.mem_append_right _ (List.mem_map.mpr ⟨f, hf, rfl⟩)))
  refine ⟨He.fAd K i0.at_, fd, selfN :: gg.cls.getD 0 [], gg.cls.getD 0 [], gg.cdf.getD 0 [], _, _, mk, glo, rfl, rfl, rfl, init_fn F (scopeC_ok (by decide +kernel)) (by decide +kernel) cls na (by decide +kernel) (by decide) (by decide +kernel), kb, fun W v xs ys ds vs zs h1 h2 r1 r2 e => ?_⟩
  match xs, ys, h1, h2, r1, r2, e with
  | [o], [a, b, c, d, e5], _, _, r1, r2, e =>
    cases (show some [o, .int 4, .int 2, a, b, c, d, e5] = some ds from e)
    obtain ⟨v1, _, rfl, q1, rfl⟩ := r1
    obtain ⟨z1, _, rfl, p1, z2, _, rfl, p2, z3, _, rfl, p3, z4, _, rfl, p4, z5, _, rfl, p5, rfl⟩ := r2
    exact ⟨[v1, .int 4, .int 2, z1, z2, z3, z4, z5], rfl, Reps.cons q1 (Reps.cons rfl (Reps.cons rfl (Reps.cons p1 (Reps.cons p2 (Reps.cons p3 (Reps.cons p4 (Reps.cons p5 Reps.nil)))))))⟩
theorem fix {w : World} {mg : Str → Option Value} {base : Heap} {K : PySem.W.Frag} (KB : K.In base) (GB : base.Ns mainGlobals mg) (c : SaysN csN fa fn K) : TbFix ⟨PySem.Challenge.pw_litmuscore_k75_obtain, w, mg, base, ⟨K, ca K, gg⟩⟩ tb := by
  refine ⟨cs_ok2 KB GB rfl rfl (by decide +kernel) c.cs, fun x c' n ks kp h => ?_, fun x hx => He.free_ok KB GB (factM c.d (free_in x hx)), fun c' ns f h1 h2 => ?_⟩
  · cases List.mem_singleton.mp h
    exact mk0 KB GB c
  · have ht : ∀ ns ∈ bcls.tail, ns = [] := by decide +kernel
    match c', h1 with
    | 0, h1 =>
      cases h1
      exact ⟨He.cls_ok (factM c.d (f := .cls "Config") (List.mem_append_left _ (List.mem_append_right _ (.tail _ (.head _))))), He.noat_ok (factM c.d (f := .noat "Config" f) (List.mem_append_right _ (List.mem_map.mpr ⟨f, h2, rfl⟩)))⟩
    | n + 1, h1 =>
      have h3 : bcls.tail[n]? = some ns := h1
      have := ht ns (List.mem_of_getElem? h3)
      subst this
      cases h2
end K75

set_option Elab.async false
set_option linter.all false
set_option maxRecDepth 100000
set_option maxHeartbeats 400000
/-! Pu0: working the evaluator out by simp. -/
namespace Ev
open PySem

theorem ks_nodup : ksL.Nodup := by decide +kernel
theorem ks_len : ksL.length = 200 := by decide +kernel
theorem K_inj {i j : Nat} (hi : i < 200) (hj : j < 200) : (K i = K j) = (i = j) := by
  unfold K
  have hi' : i < ksL.length := by rw [ks_len]; exact hi
  have hj' : j < ksL.length := by rw [ks_len]; exact hj
  rw [List.getD_eq_getElem?_getD, List.getD_eq_getElem?_getD, List.getElem?_eq_getElem hi', List.getElem?_eq_getElem hj']
  exact propext ⟨fun e => ((List.getElem?_inj hi' ks_nodup).mp (by rw [List.getElem?_eq_getElem hi', List.getElem?_eq_getElem hj']; exact congrArg some e)), fun e => by subst e; rfl⟩

section at_
variable {α : Type} {a b c d e f g h : α} {xs : List α}
@[simp] theorem at0 : L2.atI (a :: xs) 0 = some a := by
  unfold L2.atI L2.ixN
  rw [if_pos (by decide), if_pos (by rw [List.length_cons]; omega)]; rfl
@[simp] theorem atN {n : Nat} : L2.atI xs (n : Int) = xs[n]? := by
  unfold L2.atI L2.ixN
  rw [if_pos (by omega)]
  by_cases c : n < xs.length
  · rw [if_pos (by omega)]; rfl
  · rw [if_neg (by omega)]
    exact (List.getElem?_eq_none (by omega)).symm
@[simp] theorem at1 : L2.atI (a :: b :: xs) 1 = some b := atN (n := 1)
@[simp] theorem at2 : L2.atI (a :: b :: c :: xs) 2 = some c := atN (n := 2)
@[simp] theorem at3 : L2.atI (a :: b :: c :: d :: xs) 3 = some d := atN (n := 3)
@[simp] theorem at4 : L2.atI (a :: b :: c :: d :: e :: xs) 4 = some e := atN (n := 4)
@[simp] theorem at5 : L2.atI (a :: b :: c :: d :: e :: f :: xs) 5 = some f := atN (n := 5)
@[simp] theorem at6 : L2.atI (a :: b :: c :: d :: e :: f :: g :: xs) 6 = some g := atN (n := 6)
@[simp] theorem at7 : L2.atI (a :: b :: c :: d :: e :: f :: g :: h :: xs) 7 = some h := atN (n := 7)
end at_
theorem fnSem_un {k f : Nat} {fi : FnI} {args : List D} {m : Sto} (h : pp.fns[f]? = some fi) (hl : args.length = fi.np) : fnSem pp (k + 1) f args m = (evSs gg (fnSem pp k) fi.body (lo0 fi args) m).bind endOf := by
  show (match pp.fns[f]? with
    | some fi => if args.length = fi.np then (evSs pp.G (fnSem pp k) fi.body (lo0 fi args) m).bind endOf else .bad
    | none => .bad) = _
  rw [h]
  exact if_pos hl


/-! lazy: a bind's first part alone is worked out -/
theorem bind_cg {α β : Type} {r r' : Res α} {f : α → Sto → Res β} (h : r = r') : r.bind f = r'.bind f := by rw [h]
theorem lift_cg {α : Type} {l : Lo} {r r' : Res α} {f : α → Sto → Res Out} (h : r = r') : lift l r f = lift l r' f := by rw [h]
theorem liftO_cg {α : Type} {r r' : Option α} {f : α → Res Out} (h : r = r') : liftO r f = liftO r' f := by rw [h]
@[simp] theorem bind_ok' {α β : Type} (a : α) (m : Sto) (f : α → Sto → Res β) : (Res.ok a m).bind f = f a m := (rfl)
@[simp] theorem ofO_some {α : Type} (a : α) (m : Sto) : ofO (some a) m = Res.ok a m := (rfl)
@[simp] theorem lift_ok {α : Type} (l : Lo) (a : α) (m : Sto) (f : α → Sto → Res Out) : lift l (Res.ok a m) f = f a m := (rfl)
@[simp] theorem liftO_some {α : Type} (a : α) (f : α → Res Out) : liftO (some a) f = f a := (rfl)
def cnt (cal : Nat → List D → Sto → Res D) (ss : List S) (o : Out) (m : Sto) : Res Out := match o with
  | .nx l => evSs gg cal ss l m
  | o => .ok o m
section
variable {cal : Nat → List D → Sto → Res D} {l l' : Lo} {m m' : Sto} {s : S} {ss : List S} {md : Md} {d d' : D} {e e1 e2 e3 : E} {es : List E}
@[simp] theorem evSs_nil : evSs gg cal [] l m = .ok (.nx l) m := (rfl)
@[simp] theorem evSs_cons : evSs gg cal (s :: ss) l m = (evS gg cal s l m).bind (cnt cal ss) := (rfl)
@[simp] theorem cnt_nx : cnt cal ss (.nx l) m = evSs gg cal ss l m := (rfl)
@[simp] theorem cnt_rt : cnt cal ss (.rt d) m = .ok (.rt d) m := (rfl)
@[simp] theorem cnt_bk : cnt cal ss (.bk l) m = .ok (.bk l) m := (rfl)
@[simp] theorem cnt_ct : cnt cal ss (.ct l) m = .ok (.ct l) m := (rfl)
@[simp] theorem end_nx : endOf (.nx l) m = .ok .non m := (rfl)
@[simp] theorem end_rt : endOf (.rt d) m = .ok d m := (rfl)
/-- a name as a value, as an operand, as a test -/
@[simp] theorem ev_var {i : Nat} : evM gg cal (.var i) md l m = fin md (ofO (l[i]?.bind md.get) m) := (rfl)
@[simp] theorem ev_cst : evM gg cal (.cst d) md l m = fin md (.ok d m) := (rfl)
@[simp] theorem fin_p {r : Res D} : fin .p r = r := (rfl)
@[simp] theorem fin_b {r : Res D} : fin .b r = r := (rfl)
theorem fin_t : fin .t (.ok d m) = (ofO (d.tr m) m).bind fun b m => .ok (.bl b) m := rfl
theorem fin_cg {r r' : Res D} (h : r = r') : fin md r = fin md r' := by rw [h]
@[simp] theorem ev_glb {j : Nat} : evM gg cal (.glb j) md l m = fin md (ofO bcs[j]? m) := (rfl)
@[simp] theorem get_p {d : D} : Md.get .p (.val d) = some d := (rfl)
@[simp] theorem get_b {d : D} : Md.get .b (.val d) = some d := (rfl)
@[simp] theorem get_t {d : D} : Md.get .t (.val d) = some d := (rfl)
@[simp] theorem get_bo {xs : List D} : Md.get .b (.own xs) = some (.lst xs) := (rfl)
@[simp] theorem get_to {xs : List D} : Md.get .t (.own xs) = some (.lst xs) := (rfl)
def mkTup (xs : List D) (m : Sto) : Res D := if xs.length ≤ sizeLine then .ok (.tup xs) m else .bad
def mkLst (xs : List D) (m : Sto) : Res D := if xs.length ≤ sizeLine then .ok (.lst xs) m else .bad
@[simp] theorem ev_tup : evM gg cal (.tup es) md l m = fin md ((evL gg cal es .p l m).bind mkTup) := (rfl)
@[simp] theorem ev_lst : evM gg cal (.lst es) md l m = fin md ((evL gg cal es .p l m).bind mkLst) := (rfl)
@[simp] theorem evL_nil : evL gg cal [] md l m = .ok [] m := (rfl)
def consR (x : D) (xs : List D) (m : Sto) : Res (List D) := .ok (x :: xs) m
@[simp] theorem consR_ {x : D} {xs : List D} : consR x xs m = .ok (x :: xs) m := (rfl)
def thenL (cal : Nat → List D → Sto → Res D) (es : List E) (md : Md) (l : Lo) (x : D) (m : Sto) : Res (List D) := (evL gg cal es md l m).bind (consR x)
@[simp] theorem thenL_ : thenL cal es md l d m = (evL gg cal es md l m).bind (consR d) := (rfl)
@[simp] theorem evL_cons : evL gg cal (e :: es) md l m = (evM gg cal e md l m).bind (thenL cal es md l) := (rfl)
theorem mkTup_ {xs : List D} (h : xs.length ≤ sizeLine) : mkTup xs m = .ok (.tup xs) m := if_pos h
theorem mkLst_ {xs : List D} (h : xs.length ≤ sizeLine) : mkLst xs m = .ok (.lst xs) m := if_pos h
def blR (b : Bool) (m : Sto) : Res D := .ok (.bl b) m
@[simp] theorem blR_ {b : Bool} : blR b m = .ok (.bl b) m := (rfl)
def cmp2 (op : CmpOp) (x y : D) (m : Sto) : Res D := (ofO (dCmp op x y) m).bind blR
@[simp] theorem cmp2_ {op : CmpOp} {x y : D} : cmp2 op x y m = (ofO (dCmp op x y) m).bind blR := (rfl)
def cmp1 (cal : Nat → List D → Sto → Res D) (op : CmpOp) (b : E) (l : Lo) (x : D) (m : Sto) : Res D := (evM gg cal b .b l m).bind (cmp2 op x)
@[simp] theorem cmp1_ {op : CmpOp} : cmp1 cal op e l d m = (evM gg cal e .b l m).bind (cmp2 op d) := (rfl)
@[simp] theorem ev_cmp {op : CmpOp} : evM gg cal (.cmp op e1 e2) md l m = (evM gg cal e1 .b l m).bind (cmp1 cal op e2 l) := by cases md <;> rfl
def bin2 (op : Operator) (x y : D) (m : Sto) : Res D := ofO (dBin op x y) m
@[simp] theorem bin2_ {op : Operator} {x y : D} : bin2 op x y m = ofO (dBin op x y) m := (rfl)
def bin1 (cal : Nat → List D → Sto → Res D) (op : Operator) (b : E) (l : Lo) (x : D) (m : Sto) : Res D := (evM gg cal b .b l m).bind (bin2 op x)
@[simp] theorem bin1_ {op : Operator} : bin1 cal op e l d m = (evM gg cal e .b l m).bind (bin2 op d) := (rfl)
@[simp] theorem ev_bin {op : Operator} : evM gg cal (.bin op e1 e2) md l m = fin md ((evM gg cal e1 .b l m).bind (bin1 cal op e2 l)) := (rfl)
def idx2 (x y : D) (m : Sto) : Res D := ofO (dIdx m x y) m
@[simp] theorem idx2_ {x y : D} : idx2 x y m = ofO (dIdx m x y) m := (rfl)
def idx1 (cal : Nat → List D → Sto → Res D) (b : E) (l : Lo) (x : D) (m : Sto) : Res D := (evM gg cal b .p l m).bind (idx2 x)
@[simp] theorem idx1_ : idx1 cal e l d m = (evM gg cal e .p l m).bind (idx2 d) := (rfl)
@[simp] theorem ev_idx : evM gg cal (.idx e1 e2) md l m = fin md ((evM gg cal e1 .b l m).bind (idx1 cal e2 l)) := (rfl)
def trR (x : D) (m : Sto) : Res D := (ofO (x.tr m) m).bind blR
@[simp] theorem trR_ : trR d m = (ofO (d.tr m) m).bind blR := (rfl)
@[simp] theorem fin_t' {r : Res D} : fin .t r = r.bind trR := (rfl)
def ntR (x : D) (m : Sto) : Res D := match x with
      | .bl b => .ok (.bl (!b)) m
      | _ => .bad
@[simp] theorem ntR_ {b : Bool} : ntR (.bl b) m = .ok (.bl (!b)) m := (rfl)
def ntV (x : D) (m : Sto) : Res D := (ofO (x.tr m) m).bind fun b m => .ok (.bl (!b)) m
@[simp] theorem ntV_ : ntV d m = (ofO (d.tr m) m).bind fun b m => .ok (.bl (!b)) m := (rfl)
@[simp] theorem ev_nt_t : evM gg cal (.nt e) .t l m = (evM gg cal e .t l m).bind ntR := (rfl)
@[simp] theorem ev_nt_p : evM gg cal (.nt e) .p l m = (evM gg cal e .b l m).bind ntV := (rfl)
@[simp] theorem ev_nt_b : evM gg cal (.nt e) .b l m = (evM gg cal e .b l m).bind ntV := (rfl)
@[simp] theorem ev_bool_t {a : Bool} : evM gg cal (.bool a es) .t l m = evTs gg cal a es l m := (rfl)
@[simp] theorem ev_bool_p {a : Bool} : evM gg cal (.bool a es) .p l m = evBo gg cal a es l m := (rfl)
@[simp] theorem ev_bool_b {a : Bool} : evM gg cal (.bool a es) .b l m = evBo gg cal a es l m := (rfl)
@[simp] theorem evTs_nil {a : Bool} : evTs gg cal a [] l m = .ok (.bl a) m := (rfl)
def thenT (cal : Nat → List D → Sto → Res D) (a : Bool) (es : List E) (l : Lo) (k : D) (m : Sto) : Res D := match k with
    | .bl k => if k == a then evTs gg cal a es l m else .ok (.bl k) m
    | _ => .bad
@[simp] theorem evTs_cons {a : Bool} : evTs gg cal a (e :: es) l m = (evM gg cal e .t l m).bind (thenT cal a es l) := (rfl)
@[simp] theorem thenT_tt : thenT cal true es l (.bl true) m = evTs gg cal true es l m := (rfl)
@[simp] theorem thenT_tf : thenT cal true es l (.bl false) m = .ok (.bl false) m := (rfl)
@[simp] theorem thenT_ft : thenT cal false es l (.bl true) m = .ok (.bl true) m := (rfl)
@[simp] theorem thenT_ff : thenT cal false es l (.bl false) m = evTs gg cal false es l m := (rfl)
def thenB (cal : Nat → List D → Sto → Res D) (a : Bool) (es : List E) (l : Lo) (x : D) (m : Sto) : Res D := (ofO (x.tr m) m).bind fun k m => if k == a then evBo gg cal a es l m else .ok x m
@[simp] theorem evBo_one {a : Bool} : evBo gg cal a [e] l m = evM gg cal e .p l m := (rfl)
@[simp] theorem evBo_cons {a : Bool} : evBo gg cal a (e :: e1 :: es) l m = (evM gg cal e .p l m).bind (thenB cal a (e1 :: es) l) := (rfl)
theorem thenB_ {a : Bool} : thenB cal a es l d m = (ofO (d.tr m) m).bind fun k m => if k == a then evBo gg cal a es l m else .ok d m := rfl
def iteE (cal : Nat → List D → Sto → Res D) (a b : E) (l : Lo) (k : D) (m : Sto) : Res D := match k with
      | .bl true => evM gg cal a .p l m
      | .bl false => evM gg cal b .p l m
      | _ => .bad
@[simp] theorem ev_ite_p : evM gg cal (.ite e e1 e2) .p l m = (evM gg cal e .t l m).bind (iteE cal e1 e2 l) := (rfl)
@[simp] theorem iteE_t : iteE cal e1 e2 l (.bl true) m = evM gg cal e1 .p l m := (rfl)
@[simp] theorem iteE_f : iteE cal e1 e2 l (.bl false) m = evM gg cal e2 .p l m := (rfl)
def fldR (f : Str) (x : D) (m : Sto) : Res D := match x with
    | .obj c xs => ofO ((gg.cls[c]?).bind fun fs => (fs.zip xs).lookup f) m
    | _ => .bad
@[simp] theorem ev_fld {f : Str} : evM gg cal (.fld e f) md l m = fin md ((evM gg cal e .p l m).bind (fldR f)) := (rfl)
def callR (cal : Nat → List D → Sto → Res D) (f : Nat) (xs : List D) (m : Sto) : Res D := match (gg.dfl[f]?).bind fun df => argVec df xs [] [] with
    | some vs => cal f vs m
    | none => .bad
@[simp] theorem ev_call {f : Nat} : evM gg cal (.call f es [] []) md l m = fin md ((evL gg cal es .p l m).bind (callR cal f)) := (rfl)
def bcR (b : BI) (xs : List D) (m : Sto) : Res D := ofO (dBI m b xs) m
@[simp] theorem bcR_ {b : BI} {xs : List D} : bcR b xs m = ofO (dBI m b xs) m := (rfl)
@[simp] theorem ev_bcall {b : BI} : evM gg cal (.bcall b es) md l m = fin md ((evL gg cal es .b l m).bind (bcR b)) := (rfl)
/-! statements -/
def asgR (t : Tg) (l : Lo) (d : D) (m : Sto) : Res Out := liftO (t.set d l) fun l' => .ok (.nx l') m
@[simp] theorem s_asg {t : Tg} : evS gg cal (.asg t e) l m = lift l (evM gg cal e .p l m) (asgR t l) := (rfl)
@[simp] theorem asgR_ {t : Tg} : asgR t l d m = liftO (t.set d l) fun l' => .ok (.nx l') m := (rfl)
def retR (d : D) (m : Sto) : Res Out := .ok (.rt d) m
@[simp] theorem s_ret : evS gg cal (.ret e) l m = lift l (evM gg cal e .b l m) retR := (rfl)
@[simp] theorem retR_ : retR d m = .ok (.rt d) m := (rfl)
@[simp] theorem s_retN : evS gg cal .retN l m = .ok (.rt .non) m := (rfl)
@[simp] theorem s_pass : evS gg cal .pass l m = .ok (.nx l) m := (rfl)
@[simp] theorem s_brk : evS gg cal .brk l m = .ok (.bk l) m := (rfl)
@[simp] theorem s_cont : evS gg cal .cont l m = .ok (.ct l) m := (rfl)
def iteS (cal : Nat → List D → Sto → Res D) (a b : List S) (l : Lo) (k : D) (m : Sto) : Res Out := match k with
    | .bl true => evSs gg cal a l m
    | .bl false => evSs gg cal b l m
    | _ => .bad
@[simp] theorem s_ite {a b : List S} : evS gg cal (.ite e a b) l m = lift l (evM gg cal e .t l m) (iteS cal a b l) := (rfl)
@[simp] theorem iteS_t {a b : List S} : iteS cal a b l (.bl true) m = evSs gg cal a l m := (rfl)
@[simp] theorem iteS_f {a b : List S} : iteS cal a b l (.bl false) m = evSs gg cal b l m := (rfl)
/-! targets -/
@[simp] theorem tg_name {i : Nat} : Tg.set (.name i) d l = some (l.set i (.val d)) := (rfl)
@[simp] theorem tg_tup {ts : List Tg} {xs : List D} : Tg.set (.tup ts) (.tup xs) l = Tg.setAll ts xs l := (rfl)
@[simp] theorem tg_nil : Tg.setAll [] [] l = some l := (rfl)
@[simp] theorem tg_cons {t : Tg} {ts : List Tg} {x : D} {xs : List D} : Tg.setAll (t :: ts) (x :: xs) l = (Tg.set t x l).bind (Tg.setAll ts xs) := (rfl)
end
@[simp] theorem bindO_some {α β : Type} (a : α) (f : α → Option β) : (some a).bind f = f a := (rfl)
section
variable {cal : Nat → List D → Sto → Res D} {l l' : Lo} {m m' : Sto} {s : S} {ss : List S} {md : Md} {d d' : D} {e e1 e2 e3 : E} {es : List E}
/-! sizes -/
theorem sl_ (n : Nat) (h : n ≤ 16777216) : n ≤ sizeLine := h
@[simp] theorem mkTup0 : mkTup [] m = .ok (.tup []) m := (rfl)
@[simp] theorem mkLst0 : mkLst [] m = .ok (.lst []) m := (rfl)
variable {a b c z f g h i j k : D}
@[simp] theorem mkTup1 : mkTup [a] m = .ok (.tup [a]) m := if_pos (sl_ 1 (by decide))
@[simp] theorem mkTup2 : mkTup [a, b] m = .ok (.tup [a, b]) m := if_pos (sl_ 2 (by decide))
@[simp] theorem mkTup3 : mkTup [a, b, c] m = .ok (.tup [a, b, c]) m := if_pos (sl_ 3 (by decide))
@[simp] theorem mkTup4 : mkTup [a, b, c, d] m = .ok (.tup [a, b, c, d]) m := if_pos (sl_ 4 (by decide))
@[simp] theorem mkTup5 : mkTup [a, b, c, d, z] m = .ok (.tup [a, b, c, d, z]) m := if_pos (sl_ 5 (by decide))
@[simp] theorem mkTup6 : mkTup [a, b, c, d, z, f] m = .ok (.tup [a, b, c, d, z, f]) m := if_pos (sl_ 6 (by decide))
@[simp] theorem mkTup7 : mkTup [a, b, c, d, z, f, g] m = .ok (.tup [a, b, c, d, z, f, g]) m := if_pos (sl_ 7 (by decide))
@[simp] theorem mkTup8 : mkTup [a, b, c, d, z, f, g, h] m = .ok (.tup [a, b, c, d, z, f, g, h]) m := if_pos (sl_ 8 (by decide))
@[simp] theorem mkLst1 : mkLst [a] m = .ok (.lst [a]) m := if_pos (sl_ 1 (by decide))
@[simp] theorem mkLst2 : mkLst [a, b] m = .ok (.lst [a, b]) m := if_pos (sl_ 2 (by decide))
@[simp] theorem mkLst3 : mkLst [a, b, c] m = .ok (.lst [a, b, c]) m := if_pos (sl_ 3 (by decide))
@[simp] theorem mkLst4 : mkLst [a, b, c, d] m = .ok (.lst [a, b, c, d]) m := if_pos (sl_ 4 (by decide))
@[simp] theorem mkLst5 : mkLst [a, b, c, d, z] m = .ok (.lst [a, b, c, d, z]) m := if_pos (sl_ 5 (by decide))
@[simp] theorem mkLst6 : mkLst [a, b, c, d, z, f] m = .ok (.lst [a, b, c, d, z, f]) m := if_pos (sl_ 6 (by decide))
@[simp] theorem mkLst7 : mkLst [a, b, c, d, z, f, g] m = .ok (.lst [a, b, c, d, z, f, g]) m := if_pos (sl_ 7 (by decide))
end
/-! primitives on data -/
section
variable {m : Sto} {x y : D} {xs ys : List D}
@[simp] theorem tr_non : D.tr m .non = some false := (rfl)
@[simp] theorem tr_bl {b : Bool} : D.tr m (.bl b) = some b := (rfl)
@[simp] theorem tr_int {i : Int} : D.tr m (.int i) = some (i != 0) := (rfl)
@[simp] theorem tr_tup : D.tr m (.tup xs) = some (!xs.isEmpty) := (rfl)
@[simp] theorem tr_lst : D.tr m (.lst xs) = some (!xs.isEmpty) := (rfl)
@[simp] theorem cEq : dCmp .Eq x y = dEq x y := (rfl)
@[simp] theorem cNe : dCmp .NotEq x y = (dEq x y).map not := (rfl)
@[simp] theorem cIs : dCmp .Is x y = dIs x y := (rfl)
@[simp] theorem cIsN : dCmp .IsNot x y = (dIs x y).map not := (rfl)
@[simp] theorem cLt {i j : Int} : dCmp .Lt (.int i) (.int j) = some (decide (i < j)) := (rfl)
@[simp] theorem cLe {i j : Int} : dCmp .LtE (.int i) (.int j) = some (decide (i ≤ j)) := (rfl)
@[simp] theorem cGt {i j : Int} : dCmp .Gt (.int i) (.int j) = some (decide (j < i)) := (rfl)
@[simp] theorem cGe {i j : Int} : dCmp .GtE (.int i) (.int j) = some (decide (j ≤ i)) := (rfl)
@[simp] theorem cInT : dCmp .In x (.tup ys) = dIn x ys := (rfl)
@[simp] theorem cInL : dCmp .In x (.lst ys) = dIn x ys := (rfl)
@[simp] theorem cNinT : dCmp .NotIn x (.tup ys) = (dIn x ys).map not := (rfl)
@[simp] theorem cNinL : dCmp .NotIn x (.lst ys) = (dIn x ys).map not := (rfl)
@[simp] theorem is_nn : dIs .non .non = some true := (rfl)
@[simp] theorem is_bn {b : Bool} : dIs (.bl b) .non = some false := (rfl)
@[simp] theorem is_in {b : Int} : dIs (.int b) .non = some false := (rfl)
@[simp] theorem is_sn {b : Str} : dIs (.str b) .non = some false := (rfl)
@[simp] theorem is_tn : dIs (.tup xs) .non = some false := (rfl)
@[simp] theorem is_ln : dIs (.lst xs) .non = some false := (rfl)
@[simp] theorem is_bb {a b : Bool} : dIs (.bl a) (.bl b) = some (decide (a = b)) := (rfl)
@[simp] theorem eq_ii {a b : Int} : dEq (.int a) (.int b) = some (decide (a = b)) := congrArg some (by rw [Bool.eq_iff_iff, beq_iff_eq, decide_eq_true_iff])
@[simp] theorem eq_ss {a b : Str} : dEq (.str a) (.str b) = some (decide (a = b)) := (rfl)
@[simp] theorem castI {a b : Nat} : ((a : Int) = (b : Int)) = (a = b) := propext Int.ofNat_inj
@[simp] theorem castM {a b c d : Nat} : ((a : Int) % (b : Int) = (c : Int) % (d : Int)) = (a % b = c % d) := by rw [← Int.natCast_emod, ← Int.natCast_emod, castI]
@[simp] theorem eq_bb {a b : Bool} : dEq (.bl a) (.bl b) = some (decide (a = b)) := congrArg some (by rw [Bool.eq_iff_iff, beq_iff_eq, decide_eq_true_iff])
@[simp] theorem eq_nn : dEq .non .non = some true := (rfl)
@[simp] theorem eq_ni {a : Int} : dEq .non (.int a) = some false := (rfl)
@[simp] theorem eq_in {a : Int} : dEq (.int a) .non = some false := (rfl)
@[simp] theorem eq_si {a : Int} {b : Str} : dEq (.str b) (.int a) = some false := (rfl)
@[simp] theorem eq_is {a : Int} {b : Str} : dEq (.int a) (.str b) = some false := (rfl)
@[simp] theorem eq_ns {b : Str} : dEq .non (.str b) = some false := (rfl)
@[simp] theorem eq_sn {b : Str} : dEq (.str b) .non = some false := (rfl)
/-- strings of the table -/
def kB (i j : Nat) : Bool := decide (i = j)
@[simp] theorem K_dec {i j : Nat} : (decide (K i = K j)) = if i < 200 ∧ j < 200 then decide (i = j) else decide (K i = K j) := by
  by_cases h : i < 200 ∧ j < 200
  · rw [if_pos h, decide_eq_decide, K_inj h.1 h.2]
  · rw [if_neg h]
theorem scal_in (hx : x.isScal = true) (hy : ys.all D.isScal = true) : dIn x ys = some (ys.any fun y => eqS y x) := by
  unfold dIn
  rw [hx, hy]
  rfl
@[simp] theorem in_nil (hx : x.isScal = true) : dIn x [] = some false := scal_in hx rfl
theorem all_scal_int {α : Type} (f : α → Int) (zs : List α) : (zs.map fun z => D.int (f z)).all D.isScal = true := by
  rw [List.all_map]; exact List.all_eq_true.mpr fun _ _ => rfl
theorem in_nats (n : Nat) (zs : List Nat) : dIn (.int n) (zs.map fun z : Nat => D.int (z : Int)) = some (zs.contains n) := by
  rw [scal_in rfl (all_scal_int (fun z : Nat => (z : Int)) zs), List.any_map]
  congr 1
  induction zs with
  | nil => rfl
  | cons z zs ih =>
    rw [List.any_cons, List.contains_cons, ih]
    congr 1
    show ((z : Int) == (n : Int)) = (n == z)
    by_cases h : n = z
    · subst h
      rw [beq_self_eq_true, beq_self_eq_true]
    · have : (z : Int) ≠ n := by omega
      rw [beq_eq_false_iff_ne.mpr h, beq_eq_false_iff_ne.mpr this]
@[simp] theorem in_str {s : Str} {ts : List Str} : dIn (.str s) (ts.map D.str) = some (ts.any (· == s)) := by
  rw [scal_in rfl (by rw [List.all_map]; exact List.all_eq_true.mpr fun _ _ => rfl), List.any_map]
  rfl
@[simp] theorem b_add {i j : Int} : dBin .Add (.int i) (.int j) = some (.int (i + j)) := (rfl)
@[simp] theorem b_sub {i j : Int} : dBin .Sub (.int i) (.int j) = some (.int (i - j)) := (rfl)
theorem b_mod {i j : Int} (h : 0 < j) : dBin .Mod (.int i) (.int j) = some (.int (i % j)) := if_pos h
theorem b_div {i j : Int} (h : 0 < j ∧ j < 1073741824) : dBin .FloorDiv (.int i) (.int j) = some (.int (i / j)) := if_pos h
theorem b_mul {i j : Int} (h : mulOk i j = true) : dBin .Mult (.int i) (.int j) = some (.int (i * j)) := if_pos h
theorem b_addT (h : xs.length + ys.length ≤ 16777216) : dBin .Add (.tup xs) (.tup ys) = some (.tup (xs ++ ys)) := if_pos h
theorem b_addL (h : xs.length + ys.length ≤ 16777216) : dBin .Add (.lst xs) (.lst ys) = some (.lst (xs ++ ys)) := if_pos h
@[simp] theorem ix_t {i : Int} : dIdx m (.tup xs) (.int i) = L2.atI xs i := (rfl)
@[simp] theorem ix_l {i : Int} : dIdx m (.lst xs) (.int i) = L2.atI xs i := (rfl)
@[simp] theorem bi_lenT : dBI m .len [.tup xs] = some (.int xs.length) := (rfl)
@[simp] theorem bi_lenL : dBI m .len [.lst xs] = some (.int xs.length) := (rfl)
@[simp] theorem bi_tupT : dBI m .tuple [.tup xs] = some (.tup xs) := (rfl)
@[simp] theorem bi_tupL : dBI m .tuple [.lst xs] = some (.tup xs) := (rfl)
@[simp] theorem bi_listT : dBI m .list [.tup xs] = some (.lst xs) := (rfl)
@[simp] theorem bi_listL : dBI m .list [.lst xs] = some (.lst xs) := (rfl)
@[simp] theorem bi_int {i : Int} : dBI m .int [.int i] = some (.int i) := (rfl)
@[simp] theorem bi_intb {b : Bool} : dBI m .int [.bl b] = some (.int (if b then 1 else 0)) := (rfl)
@[simp] theorem bi_max {i j : Int} : dBI m .max2 [.int i, .int j] = some (.int (if j > i then j else i)) := (rfl)
@[simp] theorem bi_min {i j : Int} : dBI m .min2 [.int i, .int j] = some (.int (if j < i then j else i)) := (rfl)
@[simp] theorem bi_abs {i : Int} : dBI m .abs [.int i] = some (.int (if i < 0 then -i else i)) := (rfl)
@[simp] theorem it_t : dIter .seq [.tup xs] = some xs := (rfl)
@[simp] theorem it_l : dIter .seq [.lst xs] = some xs := (rfl)
@[simp] theorem it_en : dIter .enum [.tup xs] = some (xs.zipIdx.map fun p => .tup [.int (p.2 : Nat), p.1]) := (rfl)
@[simp] theorem it_rev : dIter .rev [.tup xs] = some xs.reverse := (rfl)
@[simp] theorem it_zip : dIter .zip [.tup xs, .tup ys] = some ((xs.zip ys).map fun p => .tup [p.1, p.2]) := (rfl)
theorem it_rg {n : Nat} (h : n ≤ 16777216) : dIter .range [.int n] = some ((List.range n).map fun k => .int (k : Nat)) := by
  have hn : (n : Int) ≤ 16777216 := by omega
  have h0 : (0 : Int) ≤ n := Int.natCast_nonneg n
  have : rgOk 0 (n : Int) := ⟨by decide +kernel, by decide +kernel, Int.le_trans (by decide +kernel) h0, Int.lt_of_le_of_lt hn (by decide +kernel)⟩
  have e : rgOf [.int n] = some (0, (n : Int)) := by
    unfold rgOf
    dsimp only
    rw [if_pos this]
  show (rgOf [.int n]).map (fun p => rgL p.1 p.2) = _
  rw [e]
  refine congrArg some ?_
  show (List.range ((n : Int) - 0).toNat).map (fun k => D.int (0 + (k : Nat))) = _
  rw [Int.sub_zero, Int.toNat_natCast]
  exact List.map_congr_left fun k _ => by rw [Int.zero_add]
end
section
variable {cal : Nat → List D → Sto → Res D} {l l' : Lo} {m m' : Sto} {md : Md} {d d' : D} {e e1 e2 e3 : E} {es : List E} {xs ys : List D}
/-! slices -/
def slc3 (x : D) (o : Option Int) (v : List D) (m : Sto) : Res D := (ofO (partOf v) m).bind fun o2 m => ofO (dSlc x o o2) m
def slc2 (cal : Nat → List D → Sto → Res D) (hi : List E) (l : Lo) (x : D) (u : List D) (m : Sto) : Res D := (ofO (partOf u) m).bind fun o m => (evL gg cal hi .p l m).bind (slc3 x o)
def slc1 (cal : Nat → List D → Sto → Res D) (lo hi : List E) (l : Lo) (x : D) (m : Sto) : Res D := (evL gg cal lo .p l m).bind (slc2 cal hi l x)
@[simp] theorem ev_slc {lo hi : List E} : evM gg cal (.slc e lo hi) md l m = fin md ((evM gg cal e .b l m).bind (slc1 cal lo hi l)) := (rfl)
@[simp] theorem slc1_ {lo hi : List E} : slc1 cal lo hi l d m = (evL gg cal lo .p l m).bind (slc2 cal hi l d) := (rfl)
@[simp] theorem slc2_ {hi : List E} {u : List D} : slc2 cal hi l d u m = (ofO (partOf u) m).bind fun o m => (evL gg cal hi .p l m).bind (slc3 d o) := (rfl)
@[simp] theorem slc3_ {o : Option Int} {v : List D} : slc3 d o v m = (ofO (partOf v) m).bind fun o2 m => ofO (dSlc d o o2) m := (rfl)
@[simp] theorem part0 : partOf [] = some none := (rfl)
@[simp] theorem part1 {i : Int} : partOf [.int i] = some (some i) := (rfl)
@[simp] theorem slcT {o p : Option Int} : dSlc (.tup xs) o p = some (.tup (cutL xs o p)) := (rfl)
theorem cut_to {α : Type} (xs : List α) (n : Nat) : cutL xs none (some (n : Int)) = xs.take n := by
  unfold cutL
  rw [HT.sIx_none, HT.sIx_nat, Nat.sub_zero, List.drop_zero, List.take_eq_take_iff]
  omega
theorem cut_from {α : Type} (xs : List α) (n : Nat) : cutL xs (some (n : Int)) none = xs.drop n := by
  unfold cutL
  rw [HT.sIx_none, HT.sIx_nat]
  by_cases c : n ≤ xs.length
  · rw [Nat.min_eq_left c, List.take_of_length_le (by rw [List.length_drop]; omega)]
  · rw [Nat.min_eq_right (by omega), List.drop_of_length_le (by omega), List.drop_of_length_le (by omega), List.take_nil]
theorem cut_ft {α : Type} (xs : List α) (a b : Nat) : cutL xs (some (a : Int)) (some (b : Int)) = (xs.drop a).take (b - a) := by
  unfold cutL
  rw [HT.sIx_nat, HT.sIx_nat]
  by_cases c : a ≤ xs.length
  · rw [Nat.min_eq_left c, List.take_eq_take_iff, List.length_drop]
    by_cases c2 : b ≤ xs.length
    · rw [Nat.min_eq_left c2]
    · rw [Nat.min_eq_right (by omega : xs.length ≤ b)]
      omega
  · have e1 : min a xs.length = xs.length := Nat.min_eq_right (by omega)
    rw [e1, List.drop_of_length_le (Nat.le_refl _), List.drop_of_length_le (by omega : xs.length ≤ a), List.take_nil, List.take_nil]
@[simp] theorem cut_to' {α : Type} (xs : List α) (n : Nat) : cutL xs none (some (n : Int)) = xs.take n := cut_to xs n
@[simp] theorem cut_from' {α : Type} (xs : List α) (n : Nat) : cutL xs (some (n : Int)) none = xs.drop n := cut_from xs n
@[simp] theorem cut_from1 {α : Type} (xs : List α) (n : Nat) : cutL xs (some ((n : Int) + 1)) none = xs.drop (n + 1) := cut_from xs (n + 1)
@[simp] theorem cut_fromp {α : Type} (xs : List α) (n k : Nat) : cutL xs (some ((n : Int) + (k : Int))) none = xs.drop (n + k) := by rw [← cut_from xs (n + k)]; rfl
@[simp] theorem cut_ftp {α : Type} (xs : List α) (n k : Nat) : cutL xs (some (n : Int)) (some ((n : Int) + (k : Int))) = (xs.drop n).take k := by
  have := cut_ft xs n (n + k)
  rw [Nat.add_sub_cancel_left] at this
  exact this
@[simp] theorem ev_chain {op op2 : CmpOp} : evM gg cal (.chain op op2 e1 e2 e3) md l m = (evM gg cal e1 .b l m).bind fun x m => (evM gg cal e2 .b l m).bind fun y m => (ofO (dCmp op x y) m).bind fun k m =>
    if k then (evM gg cal e3 .b l m).bind fun z m => (ofO (dCmp op2 y z) m).bind fun k m => .ok (.bl k) m else .ok (.bl false) m := by cases md <;> rfl
/-! calls -/
theorem av_go {F : Option D × Nat → Option D} (hF : ∀ o i x, xs[i]? = some x → F (o, i) = some x) {n k : Nat} (h : k + n = xs.length) : ((List.replicate n (none : Option D)).zipIdx k).mapM F = some (xs.drop k) := by
  induction n generalizing k with
  | zero =>
    rw [List.drop_of_length_le (by omega)]
    rfl
  | succ n ih =>
    have hk : k < xs.length := by omega
    rw [List.replicate_succ, List.zipIdx_cons, List.mapM_cons, ih (by omega), hF none k xs[k] (List.getElem?_eq_getElem hk), List.drop_eq_getElem_cons hk]
    rfl
theorem callR_of {f : Nat} {fi : FnI} (h : bfns[f]? = some fi) (hl : xs.length = fi.np) : callR cal f xs m = cal f xs m := by
  unfold callR
  have e : gg.dfl[f]? = some (List.replicate fi.np none) := by
    show (bfns.map fun f => List.replicate f.np none)[f]? = _
    rw [List.getElem?_map, h]
    rfl
  rw [e]
  show (match argVec (List.replicate fi.np none) xs [] [] with
    | some vs => cal f vs m
    | none => .bad) = _
  have : argVec (List.replicate fi.np none) xs [] [] = some xs := by
    unfold argVec
    rw [if_pos ⟨by rw [List.length_replicate, hl]; exact Nat.le_refl _, rfl⟩]
    refine (av_go (k := 0) (fun o i x e => ?_) (by rw [hl, Nat.zero_add])).trans (by rw [List.drop_zero])
    simp only [e]
  rw [this]
end

/-! loops -/
section
variable {cal : Nat → List D → Sto → Res D} {l l' : Lo} {m m' : Sto} {md : Md} {d d' : D} {e e1 e2 e3 : E} {es : List E} {xs ys : List D}
def forR (cal : Nat → List D → Sto → Res D) (tg : Tg) (ik : IK) (body : List S) (l : Lo) (xs : List D) (m : Sto) : Res Out := liftO (dIter ik xs) fun ds => forL tg (evSs gg cal body) ds l m
@[simp] theorem s_for {tg : Tg} {ik : IK} {body : List S} : evS gg cal (.for tg ik es body) l m = lift l (evL gg cal es .p l m) (forR cal tg ik body l) := (rfl)
@[simp] theorem forR_ {tg : Tg} {ik : IK} {body : List S} : forR cal tg ik body l xs m = liftO (dIter ik xs) fun ds => forL tg (evSs gg cal body) ds l m := (rfl)
@[simp] theorem forL_nil {tg : Tg} {body : Lo → Sto → Res Out} : forL tg body [] l m = .ok (.nx l) m := (rfl)
/-- a search: the body returns at the first item that fits -/
theorem forL_find {α σ : Type} {tg : Tg} {body : Lo → Sto → Res Out} (enc : α → D) (p : α → Bool) (ret : α → D) (L : σ → Lo) (u : α → σ) (h : ∀ x s m, liftO (tg.set (enc x) (L s)) (fun l' => body l' m) = if p x then .ok (.rt (ret x)) m else .ok (.nx (L (u x))) m) :
    ∀ (xs : List α) (s : σ) (m : Sto), forL tg body (xs.map enc) (L s) m = match xs.find? p with
      | some x => .ok (.rt (ret x)) m
      | none => .ok (.nx (L (xs.foldl (fun _ x => u x) s))) m
  | [], s, m => rfl
  | x :: xs, s, m => by
    have hx := h x s m
    show (liftO (tg.set (enc x) (L s)) fun l' => (body l' m).bind fun o m => again o m fun l m => forL tg body (xs.map enc) l m) = _
    cases e : tg.set (enc x) (L s) with
    | none => rw [e] at hx; split at hx <;> cases hx
    | some l' =>
      rw [e] at hx
      show (body l' m).bind _ = _
      rw [show body l' m = _ from hx]
      cases c : p x with
      | true => rw [List.find?_cons_of_pos (by exact c)]; rfl
      | false =>
        rw [List.find?_cons_of_neg (by rw [c]; exact Bool.false_ne_true)]
        show forL tg body (xs.map enc) (L (u x)) m = _
        rw [forL_find enc p ret L u h xs (u x) m]
        rfl
/-- a loop that changes the slots -/
theorem forL_fold {α σ : Type} {tg : Tg} {body : Lo → Sto → Res Out} (enc : α → D) (L : σ → Lo) (f : σ → α → σ) (I : σ → Prop) :
    ∀ (xs : List α) (s : σ) (m : Sto), I s → (∀ x ∈ xs, ∀ s, I s → I (f s x) ∧ liftO (tg.set (enc x) (L s)) (fun l' => body l' m) = .ok (.nx (L (f s x))) m) → forL tg body (xs.map enc) (L s) m = .ok (.nx (L (xs.foldl f s))) m
  | [], s, m, _, _ => rfl
  | x :: xs, s, m, hI, h => by
    obtain ⟨hI', hx⟩ := h x (List.mem_cons_self ..) s hI
    show (liftO (tg.set (enc x) (L s)) fun l' => (body l' m).bind fun o m => again o m fun l m => forL tg body (xs.map enc) l m) = _
    cases e : tg.set (enc x) (L s) with
    | none => rw [e] at hx; cases hx
    | some l' =>
      rw [e] at hx
      show (body l' m).bind _ = _
      rw [show body l' m = _ from hx]
      exact forL_fold enc L f I xs (f s x) m hI' fun y hy => h y (List.mem_cons_of_mem _ hy)
theorem forL_fold2 {α σ : Type} {tg : Tg} {body : Lo → Sto → Res Out} (enc : α → D) (L : σ → Lo) (f : σ → α → σ) (I : List α → σ → Prop) (m : Sto) (h : ∀ x xs s, I (x :: xs) s → I xs (f s x) ∧ liftO (tg.set (enc x) (L s)) (fun l' => body l' m) = .ok (.nx (L (f s x))) m) :
    ∀ (xs : List α) (s : σ), I xs s → forL tg body (xs.map enc) (L s) m = .ok (.nx (L (xs.foldl f s))) m
  | [], s, _ => rfl
  | x :: xs, s, hI => by
    obtain ⟨hI', hx⟩ := h x xs s hI
    show (liftO (tg.set (enc x) (L s)) fun l' => (body l' m).bind fun o m => again o m fun l m => forL tg body (xs.map enc) l m) = _
    cases e : tg.set (enc x) (L s) with
    | none => rw [e] at hx; cases hx
    | some l' =>
      rw [e] at hx
      show (body l' m).bind _ = _
      rw [show body l' m = _ from hx]
      exact forL_fold2 enc L f I m h xs (f s x) hI'
/-- an own list -/
def ownR (i : Nat) (l : Lo) (d : D) (m : Sto) : Res Out := match d with
    | .lst xs => .ok (.nx (l.set i (.own xs))) m
    | _ => .bad
@[simp] theorem s_own {i : Nat} : evS gg cal (.own i e) l m = lift l (evM gg cal e .p l m) (ownR i l) := (rfl)
@[simp] theorem ownR_ {i : Nat} : ownR i l (.lst xs) m = .ok (.nx (l.set i (.own xs))) m := (rfl)
/-- append to an own list -/
def appR (i : Nat) (l : Lo) (as : List D) (m : Sto) : Res Out := liftO ((Pl.sl i).xs l m) fun xs => liftO (dMth .append xs as) fun ys => .ok (.nx ((Pl.sl i).put ys l m).1) ((Pl.sl i).put ys l m).2
theorem s_app {i : Nat} (h : l[i]? = some (.own xs)) : evS gg cal (.meth .append (.var i) es) l m = lift l (evL gg cal es .p l m) (appR i l) := by
  show lift l (plE gg cal (.var i) l m) _ = _
  have : plE gg cal (.var i) l m = .ok (.sl i) m := by
    show (match l[i]? with
      | some (.own _) => Res.ok (Pl.sl i) m
      | some (.val (.loc n)) => .ok (.lc n) m
      | _ => .bad) = _
    rw [h]
  rw [this]
  rfl
theorem appR_ {i : Nat} (h : l[i]? = some (.own xs)) (hl : xs.length < 16777216) : appR i l [d] m = .ok (.nx (l.set i (.own (xs ++ [d])))) m := by
  have e1 : (Pl.sl i).xs l m = some xs := by
    show (match l[i]? with
      | some (.own xs) => some xs
      | _ => none) = _
    rw [h]
  have e2 : dMth .append xs [d] = some (xs ++ [d]) := if_pos hl
  unfold appR
  rw [e1]
  show liftO (dMth .append xs [d]) _ = _
  rw [e2]
  rfl
/-! comprehensions -/
theorem fmap_congr {α β : Type} {f g : α → Option β} : ∀ {xs : List α}, (∀ x ∈ xs, f x = g x) → xs.filterMap f = xs.filterMap g
  | [], _ => rfl
  | x :: xs, h => by
    rw [List.filterMap_cons, List.filterMap_cons, h x (List.mem_cons_self ..), fmap_congr fun y hy => h y (List.mem_cons_of_mem _ hy)]
theorem lc_ok {α : Type} {elt : E} {tg : Tg} {ik : IK} {its ifs : List E} {own : List Nat} {zs : List D} (ys : List α) (enc : α → D) (g : α → Option D)
    (h1 : evL gg cal its .b l m = .ok zs m) (h2 : dIter ik zs = some (ys.map enc)) (h3 : ownFree l own = true) (h4 : ∀ y ∈ ys, turn gg cal elt tg ifs own l (enc y) m = .ok (g y) m) (h5 : ys.length ≤ 16777216) (hmd : md ≠ .t) :
    evM gg cal (.lc elt tg ik its ifs own) md l m = .ok (.lst (ys.filterMap g)) m := by
  have : evM gg cal (.lc elt tg ik its ifs own) md l m = fin md (evM gg cal (.lc elt tg ik its ifs own) .p l m) := rfl
  rw [this]
  have f : ∀ r : Res D, fin md r = r := by intro r; cases md <;> first | rfl | exact absurd rfl hmd
  rw [f]
  show ((evL gg cal its .b l m).bind fun xs m => match dIter ik xs with
    | some ds => if ownFree l own then
        (noX (itFold (fun d acc m => match Tg.set tg d (wipeL l own) with
          | some l' => (evTs gg cal true ifs l' m).bind fun k m => match k with
            | .bl true => (evM gg cal elt .p l' m).bind fun y m => .ok (acc ++ [y]) m
            | .bl false => .ok acc m
            | _ => .bad
          | none => .bad) ds ([] : List D) m)).bind mkLst
      else .bad
    | none => .bad) = _
  rw [h1]
  show (match dIter ik zs with
    | some ds => if ownFree l own then
        (noX (itFold (fun d acc m => match Tg.set tg d (wipeL l own) with
          | some l' => (evTs gg cal true ifs l' m).bind fun k m => match k with
            | .bl true => (evM gg cal elt .p l' m).bind fun y m => .ok (acc ++ [y]) m
            | .bl false => .ok acc m
            | _ => .bad
          | none => .bad) ds ([] : List D) m)).bind mkLst
      else .bad
    | none => .bad) = _
  rw [h2]
  show (if ownFree l own then _ else _) = _
  rw [h3, if_pos rfl]
  have h4' : ∀ d ∈ ys.map enc, ∃ r, turn gg cal elt tg ifs own l d m = .ok r m := fun d hd => by
    obtain ⟨y, hy, rfl⟩ := List.mem_map.mp hd
    exact ⟨_, h4 y hy⟩
  let G : D → Option D := fun d => match turn gg cal elt tg ifs own l d m with
    | .ok r _ => r
    | _ => none
  have hG : ∀ y ∈ ys, G (enc y) = g y := fun y hy => by
    show (match turn gg cal elt tg ifs own l (enc y) m with
      | .ok r _ => r
      | _ => none) = _
    rw [h4 y hy]
  have hf : ∀ d ∈ ys.map enc, turn gg cal elt tg ifs own l d m = .ok (G d) m := fun d hd => by
    obtain ⟨r, hr⟩ := h4' d hd
    show _ = Res.ok (match turn gg cal elt tg ifs own l d m with
      | .ok r _ => r
      | _ => none) m
    rw [hr]
  refine (congrArg (fun r : Res (List D) => (noX r).bind mkLst) (fold_turn (acc := []) hf)).trans ?_
  have e : (ys.map enc).filterMap G = ys.filterMap g := by
    rw [List.filterMap_map]
    exact fmap_congr fun y hy => hG y hy
  show (Res.ok ([] ++ (ys.map enc).filterMap G) m).bind _ = _
  rw [List.nil_append, e]
  exact if_pos (Nat.le_trans (List.length_filterMap_le ..) h5)
end
end Ev

set_option Elab.async false
set_option linter.all false
set_option maxRecDepth 100000
/-! Pc: calls. Printed by gen_calls.py. -/
namespace Ev
open PySem
variable {cal : Nat → List D → Sto → Res D} {m : Sto} {x0 x1 x2 x3 x4 x5 x6 x7 x8 x9 : D}
@[simp] theorem cr_0 : callR cal 0 [x0] m = cal 0 [x0] m := callR_of (fi := fi0) rfl rfl
@[simp] theorem cr_1 : callR cal 1 [x0, x1] m = cal 1 [x0, x1] m := callR_of (fi := fi1) rfl rfl
@[simp] theorem cr_2 : callR cal 2 [x0] m = cal 2 [x0] m := callR_of (fi := fi2) rfl rfl
@[simp] theorem cr_3 : callR cal 3 [x0, x1, x2] m = cal 3 [x0, x1, x2] m := callR_of (fi := fi3) rfl rfl
@[simp] theorem cr_4 : callR cal 4 [x0, x1] m = cal 4 [x0, x1] m := callR_of (fi := fi4) rfl rfl
@[simp] theorem cr_5 : callR cal 5 [x0, x1] m = cal 5 [x0, x1] m := callR_of (fi := fi5) rfl rfl
@[simp] theorem cr_6 : callR cal 6 [x0, x1] m = cal 6 [x0, x1] m := callR_of (fi := fi6) rfl rfl
@[simp] theorem cr_7 : callR cal 7 [x0, x1] m = cal 7 [x0, x1] m := callR_of (fi := fi7) rfl rfl
@[simp] theorem cr_8 : callR cal 8 [x0, x1, x2] m = cal 8 [x0, x1, x2] m := callR_of (fi := fi8) rfl rfl
@[simp] theorem cr_9 : callR cal 9 [x0, x1, x2] m = cal 9 [x0, x1, x2] m := callR_of (fi := fi9) rfl rfl
@[simp] theorem cr_10 : callR cal 10 [x0, x1, x2] m = cal 10 [x0, x1, x2] m := callR_of (fi := fi10) rfl rfl
@[simp] theorem cr_11 : callR cal 11 [x0, x1, x2, x3] m = cal 11 [x0, x1, x2, x3] m := callR_of (fi := fi11) rfl rfl
@[simp] theorem cr_12 : callR cal 12 [x0, x1, x2, x3, x4] m = cal 12 [x0, x1, x2, x3, x4] m := callR_of (fi := fi12) rfl rfl
@[simp] theorem cr_13 : callR cal 13 [x0, x1, x2] m = cal 13 [x0, x1, x2] m := callR_of (fi := fi13) rfl rfl
@[simp] theorem cr_14 : callR cal 14 [x0, x1] m = cal 14 [x0, x1] m := callR_of (fi := fi14) rfl rfl
@[simp] theorem cr_15 : callR cal 15 [x0, x1] m = cal 15 [x0, x1] m := callR_of (fi := fi15) rfl rfl
@[simp] theorem cr_16 : callR cal 16 [x0] m = cal 16 [x0] m := callR_of (fi := fi16) rfl rfl
@[simp] theorem cr_17 : callR cal 17 [x0, x1, x2] m = cal 17 [x0, x1, x2] m := callR_of (fi := fi17) rfl rfl
@[simp] theorem cr_18 : callR cal 18 [x0, x1, x2] m = cal 18 [x0, x1, x2] m := callR_of (fi := fi18) rfl rfl
@[simp] theorem cr_19 : callR cal 19 [x0, x1] m = cal 19 [x0, x1] m := callR_of (fi := fi19) rfl rfl
@[simp] theorem cr_20 : callR cal 20 [x0, x1] m = cal 20 [x0, x1] m := callR_of (fi := fi20) rfl rfl
@[simp] theorem cr_21 : callR cal 21 [x0] m = cal 21 [x0] m := callR_of (fi := fi21) rfl rfl
@[simp] theorem cr_22 : callR cal 22 [x0, x1] m = cal 22 [x0, x1] m := callR_of (fi := fi22) rfl rfl
@[simp] theorem cr_23 : callR cal 23 [x0] m = cal 23 [x0] m := callR_of (fi := fi23) rfl rfl
@[simp] theorem cr_24 : callR cal 24 [x0, x1, x2] m = cal 24 [x0, x1, x2] m := callR_of (fi := fi24) rfl rfl
@[simp] theorem cr_25 : callR cal 25 [x0, x1, x2, x3] m = cal 25 [x0, x1, x2, x3] m := callR_of (fi := fi25) rfl rfl
@[simp] theorem cr_26 : callR cal 26 [x0, x1, x2] m = cal 26 [x0, x1, x2] m := callR_of (fi := fi26) rfl rfl
@[simp] theorem cr_27 : callR cal 27 [x0, x1] m = cal 27 [x0, x1] m := callR_of (fi := fi27) rfl rfl
@[simp] theorem cr_28 : callR cal 28 [x0] m = cal 28 [x0] m := callR_of (fi := fi28) rfl rfl
@[simp] theorem cr_29 : callR cal 29 [x0, x1, x2, x3] m = cal 29 [x0, x1, x2, x3] m := callR_of (fi := fi29) rfl rfl
@[simp] theorem cr_30 : callR cal 30 [x0] m = cal 30 [x0] m := callR_of (fi := fi30) rfl rfl
@[simp] theorem cr_31 : callR cal 31 [x0] m = cal 31 [x0] m := callR_of (fi := fi31) rfl rfl
@[simp] theorem cr_32 : callR cal 32 [x0, x1, x2] m = cal 32 [x0, x1, x2] m := callR_of (fi := fi32) rfl rfl
@[simp] theorem cr_33 : callR cal 33 [x0, x1, x2, x3] m = cal 33 [x0, x1, x2, x3] m := callR_of (fi := fi33) rfl rfl
@[simp] theorem cr_34 : callR cal 34 [x0, x1, x2, x3, x4] m = cal 34 [x0, x1, x2, x3, x4] m := callR_of (fi := fi34) rfl rfl
@[simp] theorem cr_35 : callR cal 35 [x0] m = cal 35 [x0] m := callR_of (fi := fi35) rfl rfl
@[simp] theorem cr_36 : callR cal 36 [x0, x1] m = cal 36 [x0, x1] m := callR_of (fi := fi36) rfl rfl
@[simp] theorem cr_37 : callR cal 37 [x0] m = cal 37 [x0] m := callR_of (fi := fi37) rfl rfl
@[simp] theorem cr_38 : callR cal 38 [x0, x1, x2] m = cal 38 [x0, x1, x2] m := callR_of (fi := fi38) rfl rfl
@[simp] theorem cr_39 : callR cal 39 [x0, x1, x2, x3] m = cal 39 [x0, x1, x2, x3] m := callR_of (fi := fi39) rfl rfl
@[simp] theorem cr_40 : callR cal 40 [x0, x1] m = cal 40 [x0, x1] m := callR_of (fi := fi40) rfl rfl
@[simp] theorem cr_41 : callR cal 41 [x0, x1, x2, x3] m = cal 41 [x0, x1, x2, x3] m := callR_of (fi := fi41) rfl rfl
@[simp] theorem cr_42 : callR cal 42 [x0, x1] m = cal 42 [x0, x1] m := callR_of (fi := fi42) rfl rfl
@[simp] theorem cr_43 : callR cal 43 [x0, x1, x2, x3, x4] m = cal 43 [x0, x1, x2, x3, x4] m := callR_of (fi := fi43) rfl rfl
@[simp] theorem cr_44 : callR cal 44 [x0, x1, x2, x3] m = cal 44 [x0, x1, x2, x3] m := callR_of (fi := fi44) rfl rfl
@[simp] theorem cr_45 : callR cal 45 [x0, x1, x2, x3] m = cal 45 [x0, x1, x2, x3] m := callR_of (fi := fi45) rfl rfl
@[simp] theorem cr_46 : callR cal 46 [x0] m = cal 46 [x0] m := callR_of (fi := fi46) rfl rfl
@[simp] theorem cr_47 : callR cal 47 [x0, x1] m = cal 47 [x0, x1] m := callR_of (fi := fi47) rfl rfl
@[simp] theorem cr_48 : callR cal 48 [x0] m = cal 48 [x0] m := callR_of (fi := fi48) rfl rfl
@[simp] theorem cr_49 : callR cal 49 [x0, x1, x2, x3] m = cal 49 [x0, x1, x2, x3] m := callR_of (fi := fi49) rfl rfl
@[simp] theorem cr_50 : callR cal 50 [x0, x1, x2] m = cal 50 [x0, x1, x2] m := callR_of (fi := fi50) rfl rfl
@[simp] theorem cr_51 : callR cal 51 [x0, x1, x2, x3] m = cal 51 [x0, x1, x2, x3] m := callR_of (fi := fi51) rfl rfl
@[simp] theorem cr_52 : callR cal 52 [x0, x1, x2, x3] m = cal 52 [x0, x1, x2, x3] m := callR_of (fi := fi52) rfl rfl
@[simp] theorem cr_53 : callR cal 53 [x0, x1, x2, x3] m = cal 53 [x0, x1, x2, x3] m := callR_of (fi := fi53) rfl rfl
@[simp] theorem cr_54 : callR cal 54 [x0, x1, x2, x3] m = cal 54 [x0, x1, x2, x3] m := callR_of (fi := fi54) rfl rfl
@[simp] theorem cr_55 : callR cal 55 [x0, x1, x2, x3] m = cal 55 [x0, x1, x2, x3] m := callR_of (fi := fi55) rfl rfl
@[simp] theorem cr_56 : callR cal 56 [x0, x1, x2, x3] m = cal 56 [x0, x1, x2, x3] m := callR_of (fi := fi56) rfl rfl
@[simp] theorem cr_57 : callR cal 57 [x0, x1, x2, x3] m = cal 57 [x0, x1, x2, x3] m := callR_of (fi := fi57) rfl rfl
@[simp] theorem cr_58 : callR cal 58 [x0, x1, x2] m = cal 58 [x0, x1, x2] m := callR_of (fi := fi58) rfl rfl
@[simp] theorem cr_59 : callR cal 59 [x0, x1] m = cal 59 [x0, x1] m := callR_of (fi := fi59) rfl rfl
@[simp] theorem cr_60 : callR cal 60 [x0, x1, x2] m = cal 60 [x0, x1, x2] m := callR_of (fi := fi60) rfl rfl
@[simp] theorem cr_61 : callR cal 61 [x0, x1] m = cal 61 [x0, x1] m := callR_of (fi := fi61) rfl rfl
@[simp] theorem cr_62 : callR cal 62 [x0, x1] m = cal 62 [x0, x1] m := callR_of (fi := fi62) rfl rfl
@[simp] theorem cr_63 : callR cal 63 [x0, x1, x2] m = cal 63 [x0, x1, x2] m := callR_of (fi := fi63) rfl rfl
@[simp] theorem cr_64 : callR cal 64 [x0, x1, x2, x3] m = cal 64 [x0, x1, x2, x3] m := callR_of (fi := fi64) rfl rfl
@[simp] theorem cr_65 : callR cal 65 [x0, x1, x2] m = cal 65 [x0, x1, x2] m := callR_of (fi := fi65) rfl rfl
@[simp] theorem cr_66 : callR cal 66 [x0, x1] m = cal 66 [x0, x1] m := callR_of (fi := fi66) rfl rfl
@[simp] theorem cr_67 : callR cal 67 [x0] m = cal 67 [x0] m := callR_of (fi := fi67) rfl rfl
@[simp] theorem cr_68 : callR cal 68 [x0, x1, x2] m = cal 68 [x0, x1, x2] m := callR_of (fi := fi68) rfl rfl
@[simp] theorem cr_69 : callR cal 69 [x0, x1, x2] m = cal 69 [x0, x1, x2] m := callR_of (fi := fi69) rfl rfl
@[simp] theorem cr_73 : callR cal 73 [x0, x1] m = cal 73 [x0, x1] m := callR_of (fi := fi73) rfl rfl
@[simp] theorem cr_74 : callR cal 74 [x0, x1, x2] m = cal 74 [x0, x1, x2] m := callR_of (fi := fi74) rfl rfl
@[simp] theorem cr_75 : callR cal 75 [x0, x1, x2, x3] m = cal 75 [x0, x1, x2, x3] m := callR_of (fi := fi75) rfl rfl
@[simp] theorem cr_76 : callR cal 76 [x0, x1, x2, x3] m = cal 76 [x0, x1, x2, x3] m := callR_of (fi := fi76) rfl rfl
@[simp] theorem cr_77 : callR cal 77 [x0, x1, x2] m = cal 77 [x0, x1, x2] m := callR_of (fi := fi77) rfl rfl
@[simp] theorem cr_78 : callR cal 78 [x0, x1, x2, x3] m = cal 78 [x0, x1, x2, x3] m := callR_of (fi := fi78) rfl rfl
@[simp] theorem cr_79 : callR cal 79 [x0, x1, x2, x3] m = cal 79 [x0, x1, x2, x3] m := callR_of (fi := fi79) rfl rfl
@[simp] theorem cr_80 : callR cal 80 [x0, x1, x2, x3] m = cal 80 [x0, x1, x2, x3] m := callR_of (fi := fi80) rfl rfl
@[simp] theorem cr_84 : callR cal 84 [x0, x1, x2, x3, x4] m = cal 84 [x0, x1, x2, x3, x4] m := callR_of (fi := fi84) rfl rfl
@[simp] theorem cr_212 : callR cal 212 [x0] m = cal 212 [x0] m := callR_of (fi := fi212) rfl rfl
@[simp] theorem cr_213 : callR cal 213 [x0, x1] m = cal 213 [x0, x1] m := callR_of (fi := fi213) rfl rfl
@[simp] theorem cr_214 : callR cal 214 [x0, x1] m = cal 214 [x0, x1] m := callR_of (fi := fi214) rfl rfl
@[simp] theorem cr_215 : callR cal 215 [x0, x1] m = cal 215 [x0, x1] m := callR_of (fi := fi215) rfl rfl
@[simp] theorem cr_216 : callR cal 216 [x0, x1, x2, x3, x4] m = cal 216 [x0, x1, x2, x3, x4] m := callR_of (fi := fi216) rfl rfl
@[simp] theorem cr_217 : callR cal 217 [x0, x1] m = cal 217 [x0, x1] m := callR_of (fi := fi217) rfl rfl
@[simp] theorem cr_218 : callR cal 218 [x0, x1, x2] m = cal 218 [x0, x1, x2] m := callR_of (fi := fi218) rfl rfl
@[simp] theorem cr_219 : callR cal 219 [x0] m = cal 219 [x0] m := callR_of (fi := fi219) rfl rfl
@[simp] theorem glb_0 : bcs[0]? = some (.tup [.str (K 35)]) := (rfl)
@[simp] theorem glb_1 : bcs[1]? = some (.tup [.tup [], .tup [], .tup []]) := (rfl)
@[simp] theorem glb_2 : bcs[2]? = some (.int 65536) := (rfl)
@[simp] theorem glb_3 : bcs[3]? = some (.int 32768) := (rfl)
@[simp] theorem glb_4 : bcs[4]? = some (.tup [.str (K 22), .str (K 23), .str (K 24), .str (K 25), .str (K 26), .str (K 27), .str (K 28), .str (K 110)]) := (rfl)
@[simp] theorem glb_5 : bcs[5]? = some (.tup [.int 0, .bl false]) := (rfl)
@[simp] theorem glb_6 : bcs[6]? = some (.int (-1)) := (rfl)
@[simp] theorem glb_7 : bcs[7]? = some (.tup [.int 0, .int 0, .int 0, .int 0, .int 0, .int 0, .int 0, .int 0]) := (rfl)
@[simp] theorem glb_8 : bcs[8]? = some (.tup [.str (K 111), .str (K 42), .str (K 43), .str (K 44)]) := (rfl)
@[simp] theorem glb_10 : bcs[10]? = some (.str (K 112)) := (rfl)
@[simp] theorem glb_11 : bcs[11]? = some (.tup [.str (K 90), .str (K 36)]) := (rfl)
@[simp] theorem glb_12 : bcs[12]? = some (.tup [.non, .tup [], .non]) := (rfl)
@[simp] theorem glb_13 : bcs[13]? = some (.tup [.str (K 9), .str (K 8), .str (K 10)]) := (rfl)
@[simp] theorem glb_14 : bcs[14]? = some (.tup [.str (K 13), .str (K 12), .str (K 15), .str (K 47)]) := (rfl)
@[simp] theorem glb_15 : bcs[15]? = some (.tup [.str (K 50), .str (K 56), .str (K 49)]) := (rfl)
@[simp] theorem glb_16 : bcs[16]? = some (.tup [.str (K 52), .str (K 53), .str (K 29), .str (K 55)]) := (rfl)
@[simp] theorem glb_17 : bcs[17]? = some (.str (K 113)) := (rfl)
@[simp] theorem glb_18 : bcs[18]? = some (.str (K 114)) := (rfl)
@[simp] theorem glb_19 : bcs[19]? = some (.str (K 115)) := (rfl)
@[simp] theorem glb_20 : bcs[20]? = some (.str (K 116)) := (rfl)
@[simp] theorem glb_21 : bcs[21]? = some (.int 60) := (rfl)
@[simp] theorem glb_22 : bcs[22]? = some (.int 24) := (rfl)
@[simp] theorem glb_23 : bcs[23]? = some (.int 16) := (rfl)
@[simp] theorem glb_24 : bcs[24]? = some (.int 4) := (rfl)
@[simp] theorem glb_25 : bcs[25]? = some (.int 12) := (rfl)
@[simp] theorem glb_26 : bcs[26]? = some (.int 65535) := (rfl)
@[simp] theorem glb_27 : bcs[27]? = some (.int 24) := (rfl)
@[simp] theorem glb_28 : bcs[28]? = some (.tup [.str (K 117), .str (K 118), .str (K 119), .str (K 120), .str (K 121), .str (K 122), .str (K 123), .str (K 124)]) := (rfl)
@[simp] theorem glb_29 : bcs[29]? = some (.tup [.str (K 90), .str (K 37), .str (K 36), .str (K 88)]) := (rfl)
@[simp] theorem glb_30 : bcs[30]? = some (.tup [.str (K 17), .str (K 18), .str (K 19), .str (K 20), .str (K 21), .str (K 125)]) := (rfl)
@[simp] theorem glb_31 : bcs[31]? = some (.tup [.str (K 106), .str (K 107), .str (K 126)]) := (rfl)
@[simp] theorem glb_34 : bcs[34]? = some (.int 0) := (rfl)
@[simp] theorem glb_35 : bcs[35]? = some (.int 1) := (rfl)
@[simp] theorem glb_36 : bcs[36]? = some (.int 2) := (rfl)
@[simp] theorem glb_37 : bcs[37]? = some (.int 2000) := (rfl)
@[simp] theorem glb_38 : bcs[38]? = some (.tup [.int 0, .bl true]) := (rfl)
@[simp] theorem glb_39 : bcs[39]? = some (.tup [.tup [.str (K 35), .str (K 37)], .tup [.str (K 35), .str (K 36)]]) := (rfl)
@[simp] theorem glb_40 : bcs[40]? = some (.tup [.str (K 108), .str (K 90), .str (K 37), .str (K 36)]) := (rfl)
@[simp] theorem glb_41 : bcs[41]? = some (.int 3) := (rfl)
@[simp] theorem glb_42 : bcs[42]? = some (.tup [.str (K 35), .str (K 88)]) := (rfl)
@[simp] theorem glb_43 : bcs[43]? = some (.tup [.str (K 29), .str (K 111), .str (K 42), .str (K 43)]) := (rfl)
@[simp] theorem glb_44 : bcs[44]? = some (.tup [.str (K 29), .str (K 89), .str (K 43)]) := (rfl)
@[simp] theorem glb_45 : bcs[45]? = some (.tup [.str (K 29), .str (K 89), .str (K 43)]) := (rfl)
end Ev

set_option Elab.async false
set_option linter.all false
set_option maxRecDepth 100000
set_option maxHeartbeats 400000
/-! Pu1: the memory system, typed; what the evaluator says of its defs. -/
namespace Ev
open PySem
@[simp] theorem dec_true {p : Prop} [Decidable p] : (decide p = true) = p := by simp

/-! ## data -/
inductive LSt where
  | sh | mo | exc
  deriving DecidableEq
structure CE where
  line : Nat
  st : LSt
  ws : List Nat
structure LV where
  line : Nat
  ws : Option (List Nat)
  dirty : Bool
structure Cache where
  lines : List CE
  req : List (Nat × Bool)
  lvg : List LV
structure Srv where
  core : Nat
  excl : Bool
  awt : List Nat
  rcl : Bool
  ws : Option (List Nat)
  gr : Bool
structure Home where
  own : Option Nat
  shs : List Nat
  srv : Option Srv
inductive Msg where
  | gets (c l : Nat)
  | getm (c l : Nat)
  | give (c l : Nat) (w : List Nat) (d : Bool)
  | recall (c l : Nat) (keep : Bool)
  | inval (c l : Nat)
  | grant (c l : Nat) (s : LSt) (w : List Nat)
  | conf (c l : Nat)
  | invald (c l : Nat)
  | retd (c l : Nat) (w : Option (List Nat)) (d : Bool)
  | recd (c l : Nat)
structure Sys where
  cs : List Cache
  hs : List Home
  mem : List Nat
  net : List Msg
structure Cfg where
  order : Nat
  rb : Nat
  sb : Nat
  lw : Nat
  sets : Nat
  ways : Nat
  reqs : Nat
  excl : Bool
@[simp] def eN (n : Nat) : D := .int (n : Int)
@[simp] def eNs (xs : List Nat) : D := .tup (xs.map eN)
def eON : Option Nat → D
  | none => .non
  | some x => eN x
def eW : Option (List Nat) → D
  | none => .non
  | some x => eNs x
def eLS : LSt → D
  | .sh => .str (K 4)
  | .mo => .str (K 5)
  | .exc => .str (K 46)
@[simp] def eCE (e : CE) : D := .tup [eN e.line, eLS e.st, eNs e.ws]
@[simp] def eRq (e : Nat × Bool) : D := .tup [eN e.1, .bl e.2]
@[simp] def eLV (e : LV) : D := .tup [eN e.line, eW e.ws, .bl e.dirty]
@[simp] def eL {α : Type} (f : α → D) (xs : List α) : D := .tup (xs.map f)
@[simp] def eC (c : Cache) : D := .tup [eL eCE c.lines, eL eRq c.req, eL eLV c.lvg]
@[simp] def eSrv (s : Srv) : D := .tup [eN s.core, .bl s.excl, eNs s.awt, .bl s.rcl, eW s.ws, .bl s.gr]
def eO {α : Type} (f : α → D) : Option α → D
  | none => .non
  | some s => f s
@[simp] def eH (h : Home) : D := .tup [eON h.own, eNs h.shs, eO eSrv h.srv]
def eM : Msg → D
  | .gets c l => .tup [.str (K 9), eN c, eN l]
  | .getm c l => .tup [.str (K 8), eN c, eN l]
  | .give c l w d => .tup [.str (K 10), eN c, eN l, eNs w, .bl d]
  | .recall c l k => .tup [.str (K 12), eN c, eN l, .bl k]
  | .inval c l => .tup [.str (K 13), eN c, eN l]
  | .grant c l s w => .tup [.str (K 15), eN c, eN l, eLS s, eNs w]
  | .conf c l => .tup [.str (K 47), eN c, eN l]
  | .invald c l => .tup [.str (K 14), eN c, eN l]
  | .retd c l w d => .tup [.str (K 11), eN c, eN l, eW w, .bl d]
  | .recd c l => .tup [.str (K 16), eN c, eN l]
@[simp] def eS (s : Sys) : D := .tup [eL eC s.cs, eL eH s.hs, eNs s.mem, eL eM s.net]
def eCfg (c : Cfg) : D := .obj 0 [.str (K c.order), eN c.rb, eN c.sb, eN c.lw, eN c.sets, eN c.ways, eN c.reqs, .bl c.excl]
section
variable {c l : Nat} {w : List Nat} {d k : Bool} {s : LSt} {o : Option (List Nat)}
@[simp] theorem eLS_sh : eLS .sh = .str (K 4) := (rfl)
@[simp] theorem eLS_mo : eLS .mo = .str (K 5) := (rfl)
@[simp] theorem eLS_exc : eLS .exc = .str (K 46) := (rfl)
@[simp] theorem eM_1 : eM (.gets c l) = .tup [.str (K 9), .int c, .int l] := (rfl)
@[simp] theorem eM_2 : eM (.getm c l) = .tup [.str (K 8), .int c, .int l] := (rfl)
@[simp] theorem eM_3 : eM (.give c l w d) = .tup [.str (K 10), .int c, .int l, eNs w, .bl d] := (rfl)
@[simp] theorem eM_4 : eM (.recall c l k) = .tup [.str (K 12), .int c, .int l, .bl k] := (rfl)
@[simp] theorem eM_5 : eM (.inval c l) = .tup [.str (K 13), .int c, .int l] := (rfl)
@[simp] theorem eM_6 : eM (.grant c l s w) = .tup [.str (K 15), .int c, .int l, eLS s, eNs w] := (rfl)
@[simp] theorem eM_7 : eM (.conf c l) = .tup [.str (K 47), .int c, .int l] := (rfl)
@[simp] theorem eM_8 : eM (.invald c l) = .tup [.str (K 14), .int c, .int l] := (rfl)
@[simp] theorem eM_9 : eM (.retd c l o d) = .tup [.str (K 11), .int c, .int l, eW o, .bl d] := (rfl)
@[simp] theorem eM_10 : eM (.recd c l) = .tup [.str (K 16), .int c, .int l] := (rfl)
end
@[simp] theorem eON_n : eON none = .non := (rfl)
@[simp] theorem eON_s {x : Nat} : eON (some x) = .int (x : Int) := (rfl)
@[simp] theorem eW_n : eW none = .non := (rfl)
@[simp] theorem eW_s {x : List Nat} : eW (some x) = eNs x := (rfl)
@[simp] theorem eO_n {α : Type} {f : α → D} : eO f none = .non := (rfl)
@[simp] theorem eO_s {α : Type} {f : α → D} {x : α} : eO f (some x) = f x := (rfl)

/-! fields of a configuration -/
section
variable {c : Cfg} {m : Sto}
theorem fl (k : Nat) (d : D) (h : (match eCfg c with
    | .obj c xs => ((gg.cls[c]?).bind fun fs => (fs.zip xs).lookup (K k))
    | _ => none) = some d) : fldR (K k) (eCfg c) m = .ok d m := by
  show ofO (match eCfg c with
    | .obj c xs => ((gg.cls[c]?).bind fun fs => (fs.zip xs).lookup (K k))
    | _ => none) m = _
  rw [h]
  rfl
@[simp] theorem f_order : fldR (K 39) (eCfg c) m = .ok (.str (K c.order)) m := fl 39 _ rfl
@[simp] theorem f_rb : fldR (K 34) (eCfg c) m = .ok (.int c.rb) m := fl 34 _ rfl
@[simp] theorem f_sb : fldR (K 41) (eCfg c) m = .ok (.int c.sb) m := fl 41 _ rfl
@[simp] theorem f_lw : fldR (K 3) (eCfg c) m = .ok (.int c.lw) m := fl 3 _ rfl
@[simp] theorem f_sets : fldR (K 2) (eCfg c) m = .ok (.int c.sets) m := fl 2 _ rfl
@[simp] theorem f_ways : fldR (K 7) (eCfg c) m = .ok (.int c.ways) m := fl 7 _ rfl
@[simp] theorem f_reqs : fldR (K 6) (eCfg c) m = .ok (.int c.reqs) m := fl 6 _ rfl
@[simp] theorem f_excl : fldR (K 45) (eCfg c) m = .ok (.bl c.excl) m := fl 45 _ rfl
end

/-! ## directory -/
def waits : Msg → Bool
  | .gets .. => true
  | .getm .. => true
  | .give .. => true
  | _ => false
def canRecv (h : Home) (x : Msg) : Bool := h.srv.isNone || !waits x
theorem can_receive_ok (k : Nat) (h : Home) (x : Msg) (m : Sto) : fnSem pp (k + 1) 59 [eH h, eM x] m = .ok (.bl (canRecv h x)) m := by
  rw [fnSem_un (fi := fi59) rfl rfl]
  obtain ⟨o, s, v⟩ := h
  cases v <;> cases x <;> rfl
def grantIf (cfg : Cfg) (h : Home) (l : Nat) (s : Srv) : Home × List Msg := match s.ws with
    | none => (⟨h.own, h.shs, some s⟩, [])
    | some w => if s.gr || !s.awt.isEmpty || s.rcl then (⟨h.own, h.shs, some s⟩, [])
      else
        let s' := { s with gr := true }
        if s.excl then (⟨some s.core, [], some s'⟩, [.grant s.core l .mo w])
        else if cfg.excl && h.shs.isEmpty then (⟨some s.core, h.shs, some s'⟩, [.grant s.core l .exc w])
        else if h.shs.contains s.core then (⟨h.own, h.shs, some s'⟩, [.grant s.core l .sh w])
        else (⟨h.own, h.shs ++ [s.core], some s'⟩, [.grant s.core l .sh w])
@[simp] theorem in_eNs {n : Nat} {zs : List Nat} : dIn (.int n) (zs.map eN) = some (decide (n ∈ zs)) := by
  rw [show dIn (.int n) (zs.map eN) = _ from in_nats n zs]
  congr 1
  simp
@[simp] theorem isE_map {α β : Type} {f : α → β} {xs : List α} : (xs.map f).isEmpty = xs.isEmpty := by cases xs <;> rfl
theorem grant_if_ok (k : Nat) (cfg : Cfg) (o : Option Nat) (sh : List Nat) (v : Option Srv) (l : Nat) (s : Srv) (m : Sto) (hs : sh.length ≤ 1000000) :
    fnSem pp (k + 1) 63 [eCfg cfg, .tup [eON o, eNs sh, eSrv s], .int l] m = .ok (.tup [eH (grantIf cfg ⟨o, sh, v⟩ l s).1, eL eM (grantIf cfg ⟨o, sh, v⟩ l s).2]) m := by
  rw [fnSem_un (fi := fi63) rfl rfl]
  obtain ⟨c, ex, aw, rc, ws, gr⟩ := s
  obtain ⟨q0, q1, q2, q3, q4, q5, q6, q7⟩ := cfg
  unfold grantIf
  cases ws <;> cases gr <;> cases aw <;> cases rc <;> simp [fi63, s_63, lo0, eH, eSrv, eNs, eL, eM, eLS]
  cases ex <;> simp [eM, eSrv, eNs, eLS]
  cases q7
  · by_cases hc : c ∈ sh
    · simp [hc, eM, eSrv, eNs, eLS]
    · have h2 := b_addT (xs := sh.map eN) (ys := [D.int c]) (by simp; omega)
      simp [hc, h2, eM, eSrv, eNs, eLS]
  · by_cases he : sh = []
    · subst he
      simp [eM, eSrv, eNs, eLS]
    · have hE : sh.isEmpty = false := by cases sh <;> simp_all
      by_cases hc : c ∈ sh
      · simp [he, hE, hc, eM, eSrv, eNs, eLS]
      · have h2 := b_addT (xs := sh.map eN) (ys := [D.int c]) (by simp; omega)
        simp [he, hE, hc, h2, eM, eSrv, eNs, eLS]
def begun (h : Home) (w : List Nat) (c l : Nat) (ex : Bool) : (Option Nat × List Nat × Srv) × List Msg := match h.own with
  | some o => ((some o, h.shs, ⟨c, ex, [], true, none, false⟩), [.recall o l (!ex)])
  | none =>
    let aw := if ex then h.shs.filter (· != c) else []
    ((none, h.shs, ⟨c, ex, aw, false, some w, false⟩), aw.map fun s => .inval s l)
@[simp] def eH3 (h : Option Nat × List Nat × Srv) : D := .tup [eON h.1, eNs h.2.1, eSrv h.2.2]
theorem fmap_filter {α β : Type} (p : α → Bool) (f : α → β) : ∀ xs : List α, xs.filterMap (fun x => if p x then some (f x) else none) = (xs.filter p).map f
  | [] => rfl
  | x :: xs => by
    rw [List.filterMap_cons, fmap_filter p f xs]
    cases h : p x <;> simp [h]
@[simp] theorem turn_ {cal : Nat → List D → Sto → Res D} {elt : E} {i : Nat} {ifs : List E} {own : List Nat} {l : Lo} {d : D} {m : Sto} : turn gg cal elt (.name i) ifs own l d m = (evTs gg cal true ifs ((wipeL l own).set i (.val d)) m).bind fun k m => match k with
    | .bl true => (evM gg cal elt .p ((wipeL l own).set i (.val d)) m).bind fun y m => .ok (some y) m
    | .bl false => .ok none m
    | _ => .bad := rfl
@[simp] theorem wipe1 {l : Lo} {v : Nat} : wipeL l [v] = l.set v .no := (rfl)
@[simp] theorem wipe2 {l : Lo} {v u : Nat} : wipeL l [v, u] = (l.set u .no).set v .no := (rfl)
theorem beq_nat (a b : Nat) : ((a : Int) == (b : Int)) = (a == b) := by
  by_cases h : a = b
  · subst h; rw [beq_self_eq_true, beq_self_eq_true]
  · have : (a : Int) ≠ b := by omega
    rw [beq_eq_false_iff_ne.mpr h, beq_eq_false_iff_ne.mpr this]
theorem begun_ok (k : Nat) (o : Option Nat) (sh : List Nat) (v : Option Srv) (w : List Nat) (x : Msg) (c l : Nat) (ex : Bool) (hx : (ex = true ∧ x = .getm c l) ∨ (ex = false ∧ x = .gets c l)) (m : Sto) (hs : sh.length ≤ 1000000) :
    fnSem pp (k + 1) 60 [.tup [eON o, eNs sh, eO eSrv v], eNs w, eM x] m = .ok (.tup [eH3 (begun ⟨o, sh, v⟩ w c l ex).1, eL eM (begun ⟨o, sh, v⟩ w c l ex).2]) m := by
  rw [fnSem_un (fi := fi60) rfl rfl]
  unfold begun
  have h1 : ∀ (cal : Nat → List D → Sto → Res D) (a0 a1 a2 a3 a6 a7 a8 a9 a11 : Sl) (m : Sto), evM gg cal (.lc (.var 10) (.name 10) .seq [(.var 4)] [(.cmp .NotEq (.var 10) (.var 5))] [10]) .b [a0, a1, a2, a3, .val (.tup (sh.map eN)), .val (.int c), a6, a7, a8, a9, .no, a11] m = .ok (.lst ((sh.filter (· != c)).map eN)) m := by
    intro cal a0 a1 a2 a3 a6 a7 a8 a9 a11 m
    rw [lc_ok (zs := [.tup (sh.map eN)]) sh eN (fun x => if x != c then some (eN x) else none) (by simp) (by simp) rfl (fun y _ => by
        by_cases hy : y = c <;> simp [hy, beq_nat]) (by omega) (by simp), fmap_filter]
  have h2 : ∀ (aw : List Nat) (cal : Nat → List D → Sto → Res D) (a0 a1 a2 a3 a4 a5 a7 a8 a11 : Sl) (m : Sto), aw.length ≤ 1000000 →
      evM gg cal (.lc (.tup [(.cst (.str (K 13))), (.var 10), (.var 6)]) (.name 10) .seq [(.var 9)] [] [10]) .b [a0, a1, a2, a3, a4, a5, .val (.int l), a7, a8, .val (.tup (aw.map eN)), .no, a11] m = .ok (.lst (aw.map fun s => eM (.inval s l))) m := by
    intro aw cal a0 a1 a2 a3 a4 a5 a7 a8 a11 m ha
    rw [lc_ok (zs := [.tup (aw.map eN)]) aw eN (fun s => some (eM (.inval s l))) (by simp) (by simp) rfl (fun y _ => by simp [eM]) (by omega) (by simp), List.filterMap_eq_map']
  have h20 := h2 []
  simp only [List.map_nil] at h20
  have h2f := h2 (sh.filter (· != c))
  have hf : (sh.filter (· != c)).length ≤ 1000000 := Nat.le_trans (List.length_filter_le ..) hs
  rcases hx with ⟨rfl, rfl⟩ | ⟨rfl, rfl⟩ <;> cases o <;> simp [fi60, s_60, lo0, eM, eL, eH3, eSrv, eNs, h1, h20, h2f, hf, Function.comp_def]
theorem lc_ne {cal : Nat → List D → Sto → Res D} {i j kk : Nat} {lo : Lo} {m : Sto} {xs : List Nat} {c : Nat} (hj : lo[j]? = some (.val (.tup (xs.map eN)))) (hk : ((lo.set i .no).set i (.val .non))[kk]? = some (.val (.int c))) (hl : i < lo.length) (ho : ownFree lo [i] = true) (hx : xs.length ≤ 1000000) (hik : i ≠ kk) :
    evM gg cal (.lc (.var i) (.name i) .seq [(.var j)] [(.cmp .NotEq (.var i) (.var kk))] [i]) .b lo m = .ok (.lst ((xs.filter (· != c)).map eN)) m := by
  rw [lc_ok (zs := [.tup (xs.map eN)]) xs eN (fun x => if x != c then some (eN x) else none) (by simp [hj]) (by simp) ho (fun y _ => ?_) (by omega) (by simp), fmap_filter]
  have h1 : ∀ v : Sl, ((lo.set i .no).set i v)[kk]? = some (.val (.int c)) := by
    intro v
    rw [List.getElem?_set_ne hik] at hk ⊢
    exact hk
  have h2 : ∀ v : Sl, ((lo.set i .no).set i v)[i]? = some v := by
    intro v
    rw [List.getElem?_set_self (by rw [List.length_set]; exact hl)]
  simp only [turn_, wipe1]
  have e1 := h1 (.val (eN y))
  have e2 := h2 (.val (eN y))
  generalize (lo.set i .no).set i (.val (eN y)) = L at e1 e2
  by_cases hy : y = c <;> simp [e1, e2, hy]
def invald (h : Option Nat × List Nat × Srv) (c : Nat) : Option Nat × List Nat × Srv :=
  (h.1, h.2.1.filter (· != c), { h.2.2 with awt := h.2.2.awt.filter (· != c) })
theorem invald_ok (k : Nat) (h : Option Nat × List Nat × Srv) (c : Nat) (m : Sto) (hs : h.2.1.length ≤ 1000000) (ha : h.2.2.awt.length ≤ 1000000) : fnSem pp (k + 1) 61 [eH3 h, .int c] m = .ok (eH3 (invald h c)) m := by
  rw [fnSem_un (fi := fi61) rfl rfl]
  obtain ⟨o, sh, ⟨cc, ex, aw, rc, ws, gr⟩⟩ := h
  simp only at hs ha
  simp [fi61, s_61, lo0, eH3, eSrv, eNs, invald]
  rw [lc_ne (xs := sh) (c := c) rfl rfl (by simp) rfl hs (by decide)]
  simp
  rw [lc_ne (xs := aw) (c := c) rfl rfl (by simp) rfl ha (by decide)]
  simp
def retnd (h : Option Nat × List Nat × Srv) (c : Nat) (w : Option (List Nat)) : Option Nat × List Nat × Srv :=
  (none, if h.2.2.excl then [] else [c], ⟨h.2.2.core, h.2.2.excl, h.2.2.awt, false, w, h.2.2.gr⟩)
theorem retnd_ok (k : Nat) (h : Option Nat × List Nat × Srv) (c l : Nat) (w : Option (List Nat)) (d : Bool) (m : Sto) : fnSem pp (k + 1) 62 [eH3 h, eM (.retd c l w d)] m = .ok (eH3 (retnd h c w)) m := by
  rw [fnSem_un (fi := fi62) rfl rfl]
  obtain ⟨o, sh, ⟨cc, ex, aw, rc, ws, gr⟩⟩ := h
  cases ex <;> simp [fi62, s_62, lo0, eH3, eSrv, eNs, retnd, eM]
/-- a message to a home; what the code then asks for -/
def recvOk (h : Home) : Msg → Prop
  | .invald _ _ => h.srv.isSome
  | .retd _ _ w d => h.srv.isSome ∧ (d = true → w.isSome)
  | _ => True
def homeRecv (cfg : Cfg) (h : Home) (ws : List Nat) : Msg → Home × List Nat × List Msg
  | .give c l w d => (⟨if h.own = some c then none else h.own, h.shs, none⟩, if h.own = some c ∧ d then w else ws, [.conf c l])
  | .recd c l => (⟨h.own, h.shs, none⟩, ws, [])
  | .invald c l => match h.srv with
    | none => (h, ws, [])
    | some s =>
      let h1 := invald (h.own, h.shs, s) c
      let g := grantIf cfg ⟨h1.1, h1.2.1, none⟩ l h1.2.2
      (g.1, ws, g.2)
  | .retd c l w d => match h.srv with
    | none => (h, ws, [])
    | some s =>
      let h1 := retnd (h.own, h.shs, s) c w
      let g := grantIf cfg ⟨h1.1, h1.2.1, none⟩ l h1.2.2
      (g.1, if d then w.getD [] else ws, g.2)
  | .gets c l =>
      let h1 := begun h ws c l false
      let g := grantIf cfg ⟨h1.1.1, h1.1.2.1, none⟩ l h1.1.2.2
      (g.1, ws, h1.2 ++ g.2)
  | .getm c l =>
      let h1 := begun h ws c l true
      let g := grantIf cfg ⟨h1.1.1, h1.1.2.1, none⟩ l h1.1.2.2
      (g.1, ws, h1.2 ++ g.2)
  | _ => (h, ws, [])
def toHome : Msg → Bool
  | .gets .. => true
  | .getm .. => true
  | .give .. => true
  | .invald .. => true
  | .retd .. => true
  | .recd .. => true
  | _ => false
theorem grantIf_len (cfg : Cfg) (h : Home) (l : Nat) (s : Srv) : (grantIf cfg h l s).2.length ≤ 1 := by
  unfold grantIf
  repeat' split
  all_goals simp
theorem begun_len (h : Home) (w : List Nat) (c l : Nat) (ex : Bool) (hs : h.shs.length ≤ 1000000) : (begun h w c l ex).2.length ≤ 1000000 := by
  unfold begun
  split
  · simp
  · simp only [List.length_map]
    split
    · exact Nat.le_trans (List.length_filter_le ..) hs
    · simp
theorem begun_shs (h : Home) (w : List Nat) (c l : Nat) (ex : Bool) : (begun h w c l ex).1.2.1 = h.shs := by
  unfold begun
  split <;> rfl
theorem addM {xs ys : List Msg} (h : xs.length ≤ 10000000) (h2 : ys.length ≤ 6000000) : dBin .Add (.tup (xs.map eM)) (.tup (ys.map eM)) = some (.tup ((xs ++ ys).map eM)) := by
  rw [b_addT (by rw [List.length_map, List.length_map]; omega), List.map_append]
theorem home_receives_ok (k : Nat) (cfg : Cfg) (h : Home) (ws : List Nat) (x : Msg) (m : Sto) (ht : toHome x = true) (hr : recvOk h x) (hs : h.shs.length ≤ 1000000) (ha : ∀ s, h.srv = some s → s.awt.length ≤ 1000000) :
    fnSem pp (k + 2) 64 [eCfg cfg, eH h, eNs ws, eM x] m = .ok (.tup [eH (homeRecv cfg h ws x).1, eNs (homeRecv cfg h ws x).2.1, eL eM (homeRecv cfg h ws x).2.2]) m := by
  rw [fnSem_un (fi := fi64) rfl rfl]
  obtain ⟨o, sh, v⟩ := h
  simp only at hs ha
  cases x with
  | give c l w d =>
    cases o with
    | none => simp [fi64, s_64, lo0, homeRecv]
    | some o => 
      by_cases ho : o = c
      · subst ho
        cases d <;> simp [fi64, s_64, lo0, homeRecv]
      · cases d <;> simp [fi64, s_64, lo0, homeRecv, ho]
  | recd c l => simp [fi64, s_64, lo0, homeRecv]
  | invald c l =>
    cases v with
    | none => simp [recvOk] at hr
    | some s =>
      have ha := ha s rfl
      have e1 := invald_ok k (o, sh, s) c m hs ha
      have e2 := grant_if_ok k cfg (invald (o, sh, s) c).1 (invald (o, sh, s) c).2.1 none l (invald (o, sh, s) c).2.2 m (Nat.le_trans (List.length_filter_le ..) hs)
      have e3 := addM (xs := []) (ys := (grantIf cfg ⟨(invald (o, sh, s) c).1, (invald (o, sh, s) c).2.1, none⟩ l (invald (o, sh, s) c).2.2).2) (by simp) (Nat.le_trans (grantIf_len ..) (by decide))
      simp at e1 e2 e3
      simp [fi64, s_64, lo0, homeRecv, e1, e2, e3]
  | retd c l w d =>
    cases v with
    | none => simp [recvOk] at hr
    | some s =>
      have ha := ha s rfl
      have e1 := retnd_ok k (o, sh, s) c l w d m
      have e2 := grant_if_ok k cfg (retnd (o, sh, s) c w).1 (retnd (o, sh, s) c w).2.1 none l (retnd (o, sh, s) c w).2.2 m (by unfold retnd; simp only; split <;> simp)
      have e3 := addM (xs := []) (ys := (grantIf cfg ⟨(retnd (o, sh, s) c w).1, (retnd (o, sh, s) c w).2.1, none⟩ l (retnd (o, sh, s) c w).2.2).2) (by simp) (Nat.le_trans (grantIf_len ..) (by decide))
      simp at e1 e2 e3
      cases d with
      | false => simp [fi64, s_64, lo0, homeRecv, e1, e2, e3]
      | true =>
        cases w with
        | none => simp [recvOk] at hr
        | some w =>
          simp at e1
          simp [fi64, s_64, lo0, homeRecv, e1, e2, e3]
  | gets c l =>
    have e1 := begun_ok k o sh v ws (.gets c l) c l false (.inr ⟨rfl, rfl⟩) m hs
    have e2 := grant_if_ok k cfg (begun ⟨o, sh, v⟩ ws c l false).1.1 (begun ⟨o, sh, v⟩ ws c l false).1.2.1 none l (begun ⟨o, sh, v⟩ ws c l false).1.2.2 m (by rw [begun_shs]; exact hs)
    have e3 := addM (xs := (begun ⟨o, sh, v⟩ ws c l false).2) (Nat.le_trans (begun_len _ _ _ _ _ hs) (by decide)) (Nat.le_trans (grantIf_len cfg ⟨(begun ⟨o, sh, v⟩ ws c l false).1.1, (begun ⟨o, sh, v⟩ ws c l false).1.2.1, none⟩ l (begun ⟨o, sh, v⟩ ws c l false).1.2.2) (by decide))
    simp at e1 e2 e3
    simp [fi64, s_64, lo0, homeRecv, e1, e2, e3]
  | getm c l =>
    have e1 := begun_ok k o sh v ws (.getm c l) c l true (.inl ⟨rfl, rfl⟩) m hs
    have e2 := grant_if_ok k cfg (begun ⟨o, sh, v⟩ ws c l true).1.1 (begun ⟨o, sh, v⟩ ws c l true).1.2.1 none l (begun ⟨o, sh, v⟩ ws c l true).1.2.2 m (by rw [begun_shs]; exact hs)
    have e3 := addM (xs := (begun ⟨o, sh, v⟩ ws c l true).2) (Nat.le_trans (begun_len _ _ _ _ _ hs) (by decide)) (Nat.le_trans (grantIf_len cfg ⟨(begun ⟨o, sh, v⟩ ws c l true).1.1, (begun ⟨o, sh, v⟩ ws c l true).1.2.1, none⟩ l (begun ⟨o, sh, v⟩ ws c l true).1.2.2) (by decide))
    simp at e1 e2 e3
    simp [fi64, s_64, lo0, homeRecv, e1, e2, e3]
  | _ => cases ht
end Ev

set_option Elab.async false
set_option linter.all false
set_option maxRecDepth 100000
set_option maxHeartbeats 400000
/-! Pu2: caches. -/
namespace Ev
open PySem
section
variable {α : Type} {enc : α → D} {key : α → Nat}
/-- an entry begins with its line -/
def Keyed (enc : α → D) (key : α → Nat) : Prop := ∀ x, ∃ r, enc x = .tup (.int (key x) :: r)
theorem entry_of_ok (he : Keyed enc key) (k : Nat) (xs : List α) (l : Nat) (m : Sto) : fnSem pp (k + 1) 5 [.tup (xs.map enc), .int l] m = .ok (eO enc (xs.find? fun x => key x == l)) m := by
  rw [fnSem_un (fi := fi5) rfl rfl]
  have h := forL_find (tg := .name 2) (body := evSs gg (fnSem pp k) [.ite (.cmp .Eq (.idx (.var 2) (.cst (.int 0))) (.var 1)) [.ret (.var 2)] []]) enc (fun x => key x == l) enc (fun s : Sl => [.val (.tup (xs.map enc)), .val (.int l), s]) (fun x => .val (enc x)) (fun x s m => by
    obtain ⟨r, hr⟩ := he x
    by_cases hx : key x = l <;> simp [hr, hx]) xs .no m
  simp [fi5, s_5, lo0]
  rw [h]
  cases xs.find? fun x => key x == l <;> simp
theorem without_line_ok (he : Keyed enc key) (k : Nat) (xs : List α) (l : Nat) (m : Sto) (hx : xs.length ≤ 1000000) : fnSem pp (k + 1) 6 [.tup (xs.map enc), .int l] m = .ok (.tup ((xs.filter fun x => key x != l).map enc)) m := by
  rw [fnSem_un (fi := fi6) rfl rfl]
  simp [fi6, s_6, lo0]
  rw [lc_ok (zs := [.tup (xs.map enc)]) xs enc (fun x => if key x != l then some (enc x) else none) (by simp) (by simp) rfl (fun y _ => by
    obtain ⟨r, hr⟩ := he y
    by_cases hy : key y = l <;> simp [hr, hy]) (by omega) (by simp), fmap_filter]
  simp
theorem with_entry_ok (he : Keyed enc key) (k : Nat) (xs : List α) (n : α) (m : Sto) (hx : xs.length ≤ 1000000) : fnSem pp (k + 1) 7 [.tup (xs.map enc), enc n] m = .ok (.tup ((xs.map fun x => if key x = key n then n else x).map enc)) m := by
  rw [fnSem_un (fi := fi7) rfl rfl]
  obtain ⟨r, hr⟩ := he n
  simp [fi7, s_7, lo0]
  rw [lc_ok (zs := [.tup (xs.map enc)]) xs enc (fun x => some (enc (if key x = key n then n else x))) (by simp) (by simp) rfl (fun y _ => by
    obtain ⟨r', hr'⟩ := he y
    by_cases hy : key y = key n
    · simp [hr, hr', hy]
    · simp [hr, hr', hy]) (by omega) (by simp), List.filterMap_eq_map']
  simp [Function.comp_def]
end
theorem kCE : Keyed eCE CE.line := fun x => ⟨_, rfl⟩
theorem kRq : Keyed eRq (·.1) := fun x => ⟨_, rfl⟩
theorem kLV : Keyed eLV LV.line := fun x => ⟨_, rfl⟩
def ent1 (c : Cache) (l : Nat) : Option CE := c.lines.find? fun x => x.line == l
def ent2 (c : Cache) (l : Nat) : Option (Nat × Bool) := c.req.find? fun x => x.1 == l
def ent3 (c : Cache) (l : Nat) : Option LV := c.lvg.find? fun x => x.line == l
def inSet (cfg : Cfg) (a b : Nat) : Bool := a % cfg.sets == b % cfg.sets
def occupied (cfg : Cfg) (c : Cache) (l : Nat) : Nat :=
  let p := (c.lines.filter fun x => inSet cfg x.line l).map CE.line
  p.length + (c.req.filter fun x => inSet cfg x.1 l && !p.contains x.1).length
structure CSmall (c : Cache) : Prop where
  l : c.lines.length ≤ 1000000
  r : c.req.length ≤ 1000000
  v : c.lvg.length ≤ 1000000
theorem modN {a b : Nat} (h : 0 < b) : dBin .Mod (.int a) (.int b) = some (.int ((a % b : Nat) : Int)) := by
  rw [b_mod (by omega)]
  rfl
theorem divN {a b : Nat} (h : 0 < b) (h2 : b < 1073741824) : dBin .FloorDiv (.int a) (.int b) = some (.int ((a / b : Nat) : Int)) := by
  rw [b_div (by omega)]
  rfl
theorem occupied_ok (k : Nat) (cfg : Cfg) (c : Cache) (l : Nat) (m : Sto) (h0 : 0 < cfg.sets) (hc : CSmall c) : fnSem pp (k + 1) 8 [eCfg cfg, eC c, .int l] m = .ok (.int (occupied cfg c l)) m := by
  rw [fnSem_un (fi := fi8) rfl rfl]
  have hm := fun a => modN (a := a) h0
  simp [fi8, s_8, lo0, hm]
  rw [lc_ok (zs := [.tup (c.lines.map eCE)]) c.lines eCE (fun x => if inSet cfg x.line l then some (eN x.line) else none) (by simp) (by simp) rfl (fun y _ => by
    by_cases hy : y.line % cfg.sets = l % cfg.sets <;> simp [hm, hy, inSet]; done) (by have := hc.l; omega) (by simp), fmap_filter]
  simp [hm]
  have e : List.map (fun x : CE => D.int (x.line : Int)) (c.lines.filter fun x => inSet cfg x.line l) = ((c.lines.filter fun x => inSet cfg x.line l).map CE.line).map eN := by
    rw [List.map_map]; rfl
  rw [e]
  generalize hp : (c.lines.filter fun x => inSet cfg x.line l).map CE.line = p
  rw [lc_ok (zs := [.tup (c.req.map eRq)]) c.req eRq (fun x => if inSet cfg x.1 l && !p.contains x.1 then some (eN x.1) else none) (by simp) (by simp) rfl (fun y _ => by
    by_cases hy : y.1 % cfg.sets = l % cfg.sets
    · by_cases hz : y.1 ∈ p <;> simp [hm, hy, hz, inSet]
    · simp [hm, hy, inSet]) (by have := hc.r; omega) (by simp), fmap_filter]
  simp [occupied, hp]
/-! ### requests, giving up -/
def requestLine (cfg : Cfg) (c : Cache) (core l : Nat) (ex : Bool) : Option (Cache × Msg) :=
  if (ent2 c l).isSome || (ent3 c l).isSome then none
  else if c.req.length ≥ cfg.reqs then none
  else match ent1 c l with
    | none => if occupied cfg c l ≥ cfg.ways then none else some ({ c with req := c.req ++ [(l, ex)] }, if ex then .getm core l else .gets core l)
    | some e => if ex && e.st == .sh then some ({ c with req := c.req ++ [(l, ex)] }, .getm core l) else none
def giveUp (c : Cache) (core l : Nat) : Option (Cache × List Msg) := match ent1 c l with
  | none => none
  | some e => if (ent2 c l).isSome then none
    else if e.st == .sh then some ({ c with lines := c.lines.filter (·.line != l) }, [])
    else some ({ c with lines := c.lines.filter (·.line != l), lvg := c.lvg ++ [⟨l, some e.ws, e.st == .mo⟩] }, [.give core l e.ws (e.st == .mo)])
def eCM (x : Cache × List Msg) : D := .tup [eC x.1, eL eM x.2]
theorem ls_dec (e : LSt) : dEq (eLS e) (.str (K 4)) = some (e == .sh) := by cases e <;> simp <;> rfl
theorem ls_dec5 (e : LSt) : dEq (eLS e) (.str (K 5)) = some (e == .mo) := by cases e <;> simp <;> rfl
theorem is_eO {α : Type} {f : α → D} (h : ∀ x, dIs (f x) .non = some false) (o : Option α) : dIs (eO f o) .non = some o.isNone := by cases o <;> simp [h]
theorem is_eO1 (o : Option CE) : dIs (eO eCE o) .non = some o.isNone := is_eO (fun _ => rfl) o
theorem is_eO2 (o : Option (Nat × Bool)) : dIs (eO eRq o) .non = some o.isNone := is_eO (fun _ => rfl) o
theorem is_eO3 (o : Option LV) : dIs (eO eLV o) .non = some o.isNone := is_eO (fun _ => rfl) o
theorem request_ok (k : Nat) (cfg : Cfg) (c : Cache) (core l : Nat) (ex : Bool) (m : Sto) (h0 : 0 < cfg.sets) (hc : CSmall c) :
    fnSem pp (k + 2) 12 [eCfg cfg, eC c, .int core, .int l, .bl ex] m = .ok (eO (fun x => eCM (x.1, [x.2])) (requestLine cfg c core l ex)) m := by
  rw [fnSem_un (fi := fi12) rfl rfl]
  have e1 := entry_of_ok kCE k c.lines l m
  have e2 := entry_of_ok kRq k c.req l m
  have e3 := entry_of_ok kLV k c.lvg l m
  have e4 := occupied_ok k cfg c l m h0 hc
  have e5 := b_addT (xs := c.req.map eRq) (ys := [.tup [.int l, .bl ex]]) (by have := hc.r; simp; omega)
  unfold requestLine ent1 ent2 ent3
  simp only [eC, eL] at e4
  cases c2 : c.req.find? (fun x => x.1 == l) with
  | some r => simp [fi12, s_12, lo0, e2, c2]
  | none =>
    cases c3 : c.lvg.find? (fun x => x.line == l) with
    | some r => simp [fi12, s_12, lo0, e2, c2, e3, c3]
    | none =>
      by_cases c4 : cfg.reqs ≤ c.req.length
      · simp [fi12, s_12, lo0, e2, c2, e3, c3, c4]
      · cases c1 : c.lines.find? (fun x => x.line == l) with
        | none =>
          by_cases c5 : cfg.ways ≤ occupied cfg c l
          · simp [fi12, s_12, lo0, e2, c2, e3, c3, c4, e1, c1, e4, c5]
          · cases ex <;> simp [fi12, s_12, lo0, e2, c2, e3, c3, c4, e1, c1, e4, c5, e5, eCM]
        | some e =>
          obtain ⟨el, est, ew⟩ := e
          cases ex <;> cases est <;> simp [fi12, s_12, lo0, e2, c2, e3, c3, c4, e1, c1, e4, e5, eCM]
theorem give_up_ok (k : Nat) (c : Cache) (core l : Nat) (m : Sto) (hc : CSmall c) :
    fnSem pp (k + 2) 13 [eC c, .int core, .int l] m = .ok (eO eCM (giveUp c core l)) m := by
  rw [fnSem_un (fi := fi13) rfl rfl]
  have e1 := entry_of_ok kCE k c.lines l m
  have e2 := entry_of_ok kRq k c.req l m
  have e4 := without_line_ok kCE k c.lines l m hc.l
  unfold giveUp ent1 ent2
  cases c1 : c.lines.find? (fun x => x.line == l) with
  | none => simp [fi13, s_13, lo0, e1, c1]
  | some e =>
    obtain ⟨el, est, ew⟩ := e
    have e5 := fun b => b_addT (xs := c.lvg.map eLV) (ys := [.tup [.int l, .tup (ew.map eN), .bl b]]) (by have := hc.v; simp; omega)
    cases c2 : c.req.find? (fun x => x.1 == l) with
    | some r => simp [fi13, s_13, lo0, e1, c1, e2, c2]
    | none => cases est <;> simp [fi13, s_13, lo0, e2, c2, e1, c1, e4, e5, eCM]
/-! ### what a cache receives -/
def afterRecall (c : Cache) (core l : Nat) (keep : Bool) : Cache × List Msg := match ent1 c l with
  | none => match ent3 c l with
    | none => (c, [])
    | some v => ({ c with lvg := c.lvg.map fun x => if x.line = l then ⟨l, none, v.dirty⟩ else x }, [.retd core l v.ws v.dirty])
  | some e => ({ c with lines := if keep then c.lines.map fun x => if x.line = l then ⟨l, .sh, e.ws⟩ else x else c.lines.filter (·.line != l) }, [.retd core l (some e.ws) (e.st == .mo)])
theorem recall_ok (k : Nat) (c : Cache) (core l : Nat) (keep : Bool) (m : Sto) (hc : CSmall c) (h : (ent1 c l).isSome ∨ (ent3 c l).isSome) :
    fnSem pp (k + 2) 14 [eC c, eM (.recall core l keep)] m = .ok (eCM (afterRecall c core l keep)) m := by
  rw [fnSem_un (fi := fi14) rfl rfl]
  have e1 := entry_of_ok kCE k c.lines l m
  have e3 := entry_of_ok kLV k c.lvg l m
  have e4 := without_line_ok kCE k c.lines l m hc.l
  unfold afterRecall
  unfold ent1 ent3 at *
  cases c1 : c.lines.find? (fun x => x.line == l) with
  | none =>
    cases c3 : c.lvg.find? (fun x => x.line == l) with
    | none => simp [c1, c3] at h
    | some v =>
      obtain ⟨vl, vw, vd⟩ := v
      have e5 := with_entry_ok kLV k c.lvg ⟨l, none, vd⟩ m hc.v
      simp at e5
      simp [fi14, s_14, lo0, e1, c1, e3, c3, e5, eCM]
  | some e =>
    obtain ⟨el, est, ew⟩ := e
    have e5 := with_entry_ok kCE k c.lines ⟨l, .sh, ew⟩ m hc.l
    simp at e5
    cases keep <;> cases est <;> simp [fi14, s_14, lo0, e1, c1, e4, e5, eCM]
def cacheRecv (c : Cache) : Msg → Cache × List Msg
  | .recall core l keep => afterRecall c core l keep
  | .inval core l => ({ c with lines := c.lines.filter (·.line != l) }, [.invald core l])
  | .grant core l s w => ({ c with lines := c.lines.filter (·.line != l) ++ [⟨l, s, w⟩], req := c.req.filter (·.1 != l) }, [.recd core l])
  | .conf core l => ({ c with lvg := c.lvg.filter (·.line != l) }, [])
  | _ => (c, [])
def cacheOk (c : Cache) : Msg → Prop
  | .recall _ l _ => (ent1 c l).isSome ∨ (ent3 c l).isSome
  | _ => True
theorem cache_receives_ok (k : Nat) (c : Cache) (x : Msg) (m : Sto) (hc : CSmall c) (hx : toHome x = false) (h : cacheOk c x) :
    fnSem pp (k + 3) 15 [eC c, eM x] m = .ok (eCM (cacheRecv c x)) m := by
  rw [fnSem_un (fi := fi15) rfl rfl]
  have e4 := fun l => without_line_ok kCE (k + 1) c.lines l m hc.l
  have e5 := fun l => without_line_ok kRq (k + 1) c.req l m hc.r
  have e6 := fun l => without_line_ok kLV (k + 1) c.lvg l m hc.v
  cases x with
  | recall core l keep =>
    have e1 := recall_ok k c core l keep m hc h
    simp at e1
    simp [fi15, s_15, lo0, e1, cacheRecv]
  | inval core l => simp [fi15, s_15, lo0, e4, cacheRecv, eCM]
  | grant core l s w =>
    have e7 := b_addT (xs := (c.lines.filter (·.line != l)).map eCE) (ys := [eCE ⟨l, s, w⟩]) (by have := hc.l; have := List.length_filter_le (fun x : CE => x.line != l) c.lines; simp at this ⊢; omega)
    simp at e7
    cases s <;> simp at e7 <;> simp [fi15, s_15, lo0, e4, e5, e7, cacheRecv, eCM]
  | conf core l => simp [fi15, s_15, lo0, e6, cacheRecv, eCM]
  | _ => cases hx
end Ev

set_option Elab.async false
set_option linter.all false
set_option maxRecDepth 100000
set_option maxHeartbeats 400000
/-! Pu3: the network, actions, obtain. -/
namespace Ev
open PySem
theorem replaced_ok {α : Type} {enc : α → D} (k : Nat) (xs : List α) (i : Nat) (x : α) (m : Sto) (hi : i < xs.length) (hx : xs.length ≤ 1000000) : fnSem pp (k + 1) 65 [.tup (xs.map enc), .int i, enc x] m = .ok (.tup ((xs.set i x).map enc)) m := by
  rw [fnSem_un (fi := fi65) rfl rfl]
  have e1 := b_addT (xs := (xs.take i).map enc) (ys := [enc x]) (by simp; omega)
  have e2 := b_addT (xs := (xs.take i).map enc ++ [enc x]) (ys := (xs.drop (i + 1)).map enc) (by simp; omega)
  simp [fi65, s_65, lo0, ← List.map_take, ← List.map_drop, e1]
  rw [e2]
  have : (xs.map enc).set i (enc x) = (xs.set i x).map enc := by rw [List.map_set]
  rw [this]
  have : xs.set i x = xs.take i ++ x :: xs.drop (i + 1) := by rw [List.set_eq_take_append_cons_drop, if_pos hi]
  simp [this]
theorem replaced_ok' {α : Type} {enc : α → D} (k : Nat) (xs : List α) (i : Nat) (x : α) (m : Sto) (hi : i < xs.length) (hx : xs.length ≤ 1000000) : fnSem pp (k + 1) 74 [.tup (xs.map enc), .int i, enc x] m = .ok (.tup ((xs.set i x).map enc)) m := by
  have h : fnSem pp (k + 1) 74 [.tup (xs.map enc), .int i, enc x] m = fnSem pp (k + 1) 65 [.tup (xs.map enc), .int i, enc x] m := rfl
  rw [h, replaced_ok k xs i x m hi hx]
def Msg.core : Msg → Nat
  | .gets c _ => c
  | .getm c _ => c
  | .give c _ _ _ => c
  | .recall c _ _ => c
  | .inval c _ => c
  | .grant c _ _ _ => c
  | .conf c _ => c
  | .invald c _ => c
  | .retd c _ _ _ => c
  | .recd c _ => c
def Msg.line : Msg → Nat
  | .gets _ l => l
  | .getm _ l => l
  | .give _ l _ _ => l
  | .recall _ l _ => l
  | .inval _ l => l
  | .grant _ l _ _ => l
  | .conf _ l => l
  | .invald _ l => l
  | .retd _ l _ _ => l
  | .recd _ l => l
def Msg.kind : Msg → Nat
  | .gets .. => 9
  | .getm .. => 8
  | .give .. => 10
  | .recall .. => 12
  | .inval .. => 13
  | .grant .. => 15
  | .conf .. => 47
  | .invald .. => 14
  | .retd .. => 11
  | .recd .. => 16
theorem eM0 {x : Msg} {m : Sto} : dIdx m (eM x) (.int 0) = some (.str (K x.kind)) := by cases x <;> simp <;> rfl
theorem eM1 {x : Msg} {m : Sto} : dIdx m (eM x) (.int 1) = some (.int x.core) := by cases x <;> simp <;> rfl
theorem eM2 {x : Msg} {m : Sto} : dIdx m (eM x) (.int 2) = some (.int x.line) := by cases x <;> simp <;> rfl
theorem glb14 : bcs[14]? = some (.tup [.str (K 13), .str (K 12), .str (K 15), .str (K 47)]) := rfl
theorem kind14 {x : Msg} : dIn (.str (K x.kind)) [.str (K 13), .str (K 12), .str (K 15), .str (K 47)] = some (!toHome x) := by
  have := in_str (s := K x.kind) (ts := [K 13, K 12, K 15, K 47])
  simp only [List.map_cons, List.map_nil] at this
  rw [this]
  cases x <;> rfl
/-! ### deliverable -/
def canDel (hs : List Home) (x : Msg) : Bool := !toHome x || canRecv (hs.getD x.line ⟨none, [], none⟩) x
def deliv (s : Sys) : List Nat := (s.net.zipIdx.filter fun p => canDel s.hs p.1).map (·.2)
theorem del_fold (hs : List Home) : ∀ (xs : List (Msg × Nat)) (acc : List Nat) (u v : Sl), ∃ u' v', xs.foldl (fun (s : List Nat × Sl × Sl) p => (if canDel hs p.1 then s.1 ++ [p.2] else s.1, .val (.int (p.2 : Nat)), .val (eM p.1))) (acc, u, v) = (acc ++ (xs.filter fun p => canDel hs p.1).map (·.2), u', v')
  | [], acc, u, v => ⟨u, v, by simp⟩
  | p :: xs, acc, u, v => by
    rw [List.foldl_cons]
    obtain ⟨u', v', h⟩ := del_fold hs xs (if canDel hs p.1 then acc ++ [p.2] else acc) (.val (.int (p.2 : Nat))) (.val (eM p.1))
    refine ⟨u', v', h.trans ?_⟩
    cases c : canDel hs p.1 <;> simp [c]
theorem deliv_ok (k : Nat) (s : Sys) (m : Sto) (hn : s.net.length ≤ 1000000) (hl : ∀ x ∈ s.net, toHome x = true → x.line < s.hs.length) : fnSem pp (k + 2) 67 [eS s] m = .ok (eNs (deliv s)) m := by
  rw [fnSem_un (fi := fi67) rfl rfl]
  obtain ⟨cs, hs, mem, net⟩ := s
  have h := forL_fold2 (tg := .tup [.name 4, .name 5]) (body := evSs gg (fnSem pp (k + 1)) [.ite (.bool false [(.cmp .In (.idx (.var 5) (.cst (.int 0))) (.glb 14)), (.call 59 [(.idx (.var 1) (.idx (.var 5) (.cst (.int 2)))), (.var 5)] [] [])]) [.meth .append (.var 3) [(.var 4)]] []])
    (fun p : Msg × Nat => .tup [.int (p.2 : Nat), eM p.1]) (fun t : List Nat × Sl × Sl => [.val (eS ⟨cs, hs, mem, net⟩), .val (.tup (hs.map eH)), .val (.tup (net.map eM)), .own (t.1.map eN), t.2.1, t.2.2])
    (fun s p => (if canDel hs p.1 then s.1 ++ [p.2] else s.1, .val (.int (p.2 : Nat)), .val (eM p.1)))
    (fun xs t => t.1.length + xs.length ≤ 1000000 ∧ ∀ p ∈ xs, toHome p.1 = true → p.1.line < hs.length) m (fun p xs t hI => by
      obtain ⟨hI1, hI2⟩ := hI
      refine ⟨⟨?_, fun q hq => hI2 q (List.mem_cons_of_mem _ hq)⟩, ?_⟩
      · simp only [List.length_cons] at hI1
        dsimp only
        split
        · rw [List.length_append, List.length_singleton]; omega
        · omega
      · have ha := fun l : Lo => fun h => s_app (cal := fnSem pp (k + 1)) (l := l) (m := m) (es := [.var 4]) (i := 3) (xs := t.1.map eN) h
        have hb := fun l : Lo => fun h => appR_ (l := l) (m := m) (d := .int (p.2 : Nat)) (i := 3) (xs := t.1.map eN) h (by simp only [List.length_cons] at hI1; simp; omega)
        have hp := hI2 p (List.mem_cons_self ..)
        cases c : toHome p.1 with
        | false => simp [eM0, kind14, glb14, c, ha, hb, canDel]
        | true =>
          have hlt := hp c
          have e1 := can_receive_ok k hs[p.1.line] p.1 m
          simp at e1
          cases c2 : canRecv hs[p.1.line] p.1 <;> simp [eM0, eM2, kind14, glb14, c, ha, hb, canDel, hlt, e1, c2])
  have h2 := h net.zipIdx ([], .no, .no) ⟨by simpa using hn, fun p hp ht => hl p.1 (by
    obtain ⟨i, hi⟩ := List.getElem?_of_mem hp
    rw [List.getElem?_zipIdx] at hi
    obtain ⟨x, hx, e⟩ := Option.map_eq_some_iff.mp hi
    rw [← e]
    exact List.mem_of_getElem? hx) ht⟩
  obtain ⟨u', v', h3⟩ := del_fold hs net.zipIdx [] .no .no
  rw [h3] at h2
  have hz : (net.map eM).zipIdx.map (fun p => D.tup [.int (p.2 : Nat), p.1]) = net.zipIdx.map fun p => .tup [.int (p.2 : Nat), eM p.1] := by
    rw [List.zipIdx_map, List.map_map]
    rfl
  simp at h2
  simp [fi67, s_67, lo0, hz, h2, deliv]
/-! ### actions -/
inductive Act where
  | deliver (i : Nat)
  | request (c l : Nat) (ex : Bool)
  | evict (c l : Nat)
  | fetch (c : Nat) (s v : Option Nat)
  | execute (c i : Nat)
  | resolve (c i : Nat)
  | load (c i : Nat)
  | commit (c : Nat)
  | drain (c i : Nat)
def eA : Act → D
  | .deliver i => .tup [.str (K 49), .int i]
  | .request c l ex => .tup [.str (K 50), .int c, .int l, .bl ex]
  | .evict c l => .tup [.str (K 56), .int c, .int l]
  | .fetch c s v => .tup [.str (K 51), .int c, eON s, eON v]
  | .execute c i => .tup [.str (K 52), .int c, .int i]
  | .resolve c i => .tup [.str (K 53), .int c, .int i]
  | .load c i => .tup [.str (K 29), .int c, .int i]
  | .commit c => .tup [.str (K 54), .int c]
  | .drain c i => .tup [.str (K 55), .int c, .int i]
section
variable {c i l : Nat} {ex : Bool} {s v : Option Nat}
@[simp] theorem eA_1 : eA (.deliver i) = .tup [.str (K 49), .int i] := (rfl)
@[simp] theorem eA_2 : eA (.request c l ex) = .tup [.str (K 50), .int c, .int l, .bl ex] := (rfl)
@[simp] theorem eA_3 : eA (.evict c l) = .tup [.str (K 56), .int c, .int l] := (rfl)
@[simp] theorem eA_4 : eA (.fetch c s v) = .tup [.str (K 51), .int c, eON s, eON v] := (rfl)
@[simp] theorem eA_5 : eA (.execute c i) = .tup [.str (K 52), .int c, .int i] := (rfl)
@[simp] theorem eA_6 : eA (.resolve c i) = .tup [.str (K 53), .int c, .int i] := (rfl)
@[simp] theorem eA_7 : eA (.load c i) = .tup [.str (K 29), .int c, .int i] := (rfl)
@[simp] theorem eA_8 : eA (.commit c) = .tup [.str (K 54), .int c] := (rfl)
@[simp] theorem eA_9 : eA (.drain c i) = .tup [.str (K 55), .int c, .int i] := (rfl)
end
/-! ### what the code asks for, that it may run -/
structure SSmall (s : Sys) : Prop where
  c : ∀ c ∈ s.cs, CSmall c
  cl : s.cs.length ≤ 1000000
  hl : s.hs.length ≤ 1000000
  sh : ∀ h ∈ s.hs, h.shs.length ≤ 1000000
  aw : ∀ h ∈ s.hs, ∀ v, h.srv = some v → v.awt.length ≤ 1000000
  n : s.net.length ≤ 1000000
  mem : s.mem.length ≤ 1000000
  ret : ∀ c l w d, Msg.retd c l (some w) d ∈ s.net → w.length ≤ 1000000
  giv : ∀ c l w d, Msg.give c l w d ∈ s.net → w.length ≤ 1000000
structure NetOk (s : Sys) : Prop where
  line : ∀ x ∈ s.net, x.line < s.hs.length
  core : ∀ x ∈ s.net, x.core < s.cs.length
  recv : ∀ x ∈ s.net, toHome x = true → ∀ h, s.hs[x.line]? = some h → canRecv h x = true → recvOk h x
  cache : ∀ x ∈ s.net, toHome x = false → ∀ c, s.cs[x.core]? = some c → cacheOk c x
def delivered (cfg : Cfg) (s : Sys) (i : Nat) : Sys := match s.net[i]? with
  | none => s
  | some x =>
    let rest := s.net.take i ++ s.net.drop (i + 1)
    if toHome x then
      match s.hs[x.line]? with
      | none => s
      | some h =>
        let f := x.line * cfg.lw
        let r := homeRecv cfg h ((s.mem.drop f).take cfg.lw) x
        ⟨s.cs, s.hs.set x.line r.1, s.mem.take f ++ r.2.1 ++ s.mem.drop (f + cfg.lw), rest ++ r.2.2⟩
    else match s.cs[x.core]? with
      | none => s
      | some c => ⟨s.cs.set x.core (cacheRecv c x).1, s.hs, s.mem, rest ++ (cacheRecv c x).2⟩
theorem homeRecv_len (cfg : Cfg) (h : Home) (ws : List Nat) (x : Msg) (hs : h.shs.length ≤ 1000000) : (homeRecv cfg h ws x).2.2.length ≤ 1000001 := by
  unfold homeRecv
  split
  · simp
  · simp
  · split
    · simp
    · exact Nat.le_trans (grantIf_len ..) (by decide)
  · split
    · simp
    · exact Nat.le_trans (grantIf_len ..) (by decide)
  · rw [List.length_append]
    exact Nat.add_le_add (begun_len _ _ _ _ _ hs) (grantIf_len ..)
  · rw [List.length_append]
    exact Nat.add_le_add (begun_len _ _ _ _ _ hs) (grantIf_len ..)
  · simp
theorem cacheRecv_len (c : Cache) (x : Msg) : (cacheRecv c x).2.length ≤ 1 := by
  unfold cacheRecv afterRecall
  repeat' split
  all_goals simp
theorem homeRecv_ws (cfg : Cfg) (h : Home) (ws : List Nat) (x : Msg) (hw : ws.length ≤ 1000000) (h1 : ∀ c l w d, x = .retd c l (some w) d → w.length ≤ 1000000) (h2 : ∀ c l w d, x = .give c l w d → w.length ≤ 1000000) : (homeRecv cfg h ws x).2.1.length ≤ 1000000 := by
  cases x with
  | give c l w d => 
    show (if h.own = some c ∧ d = true then w else ws).length ≤ _
    split
    · exact h2 _ _ _ _ rfl
    · exact hw
  | retd c l w d =>
    unfold homeRecv
    cases h.srv with
    | none => exact hw
    | some s =>
      show (if d then w.getD [] else ws).length ≤ _
      split
      · cases w with
        | none => simp
        | some w => exact h1 _ _ _ _ rfl
      · exact hw
  | invald c l =>
    unfold homeRecv
    cases h.srv with
    | none => exact hw
    | some s => exact hw
  | _ => exact hw
theorem mulN {a b : Nat} (h : b < 18446744073709551616) : dBin .Mult (.int a) (.int b) = some (.int ((a * b : Nat) : Int)) := by
  rw [b_mul (by
    unfold mulOk
    rw [Bool.or_eq_true, decide_eq_true_eq, decide_eq_true_eq]
    right
    rw [Int.natAbs_natCast]
    exact h)]
  rfl
theorem delivered_ok (k : Nat) (cfg : Cfg) (s : Sys) (i : Nat) (m : Sto) (hlw : cfg.lw ≤ 1000000) (S : SSmall s) (N : NetOk s) (hi : i ∈ deliv s) : fnSem pp (k + 4) 68 [eCfg cfg, eS s, .int i] m = .ok (eS (delivered cfg s i)) m := by
  rw [fnSem_un (fi := fi68) rfl rfl]
  unfold deliv at hi
  obtain ⟨p, hp, rfl⟩ := List.mem_map.mp hi
  obtain ⟨hp1, hp2⟩ := List.mem_filter.mp hp
  obtain ⟨x, i⟩ := p
  have hx : s.net[i]? = some x := by
    have := List.mem_zipIdx_iff_getElem?.mp hp1
    simpa using this
  have hmem : x ∈ s.net := List.mem_of_getElem? hx
  simp only at hp2 ⊢
  obtain ⟨cs, hs, mem, net⟩ := s
  simp only at hx hmem
  have hnl := S.n
  simp only at hnl
  obtain ⟨rest, hrest⟩ : ∃ r, r = net.take i ++ net.drop (i + 1) := ⟨_, rfl⟩
  have hrl : rest.length ≤ 1000000 := by rw [hrest]; simp; omega
  have e0 : dBin .Add (.tup ((net.map eM).take i)) (.tup ((net.map eM).drop (i + 1))) = some (.tup (rest.map eM)) := by
    rw [b_addT (by simp; omega), hrest, List.map_append, List.map_take, List.map_drop]
  unfold delivered
  simp only [hx, ← hrest]
  cases ht : toHome x with
  | false =>
    have hc := N.core x hmem
    simp only at hc
    have e1 := cache_receives_ok k cs[x.core] x m (S.c _ (List.getElem_mem hc)) ht (N.cache x hmem ht _ (List.getElem?_eq_getElem hc))
    have e2 := replaced_ok (enc := eC) (k + 2) cs x.core (cacheRecv cs[x.core] x).1 m hc S.cl
    have e3 := addM (xs := rest) (ys := (cacheRecv cs[x.core] x).2) (by omega) (Nat.le_trans (cacheRecv_len ..) (by decide))
    simp [eCM] at e1 e2 e3
    simp [fi68, s_68, lo0, hx, e0, eM0, eM1, eM2, glb14, kind14, ht, hc, e1, e2, e3]
  | true =>
    have hl := N.line x hmem
    simp only at hl
    have hcr : canRecv hs[x.line] x = true := by
      unfold canDel at hp2
      rw [ht] at hp2
      simpa [hl] using hp2
    obtain ⟨f, hf⟩ : ∃ f, f = x.line * cfg.lw := ⟨_, rfl⟩
    obtain ⟨ws, hws⟩ : ∃ ws, ws = (mem.drop f).take cfg.lw := ⟨_, rfl⟩
    have ef : dBin .Mult (.int x.line) (.int cfg.lw) = some (.int (f : Int)) := by rw [hf]; exact mulN (by omega)
    have hsm := S.sh hs[x.line] (List.getElem_mem hl)
    have hml := S.mem
    simp only at hml
    have hwl : ws.length ≤ 1000000 := by rw [hws]; simp; omega
    have e1 := home_receives_ok (k + 1) cfg hs[x.line] ws x m ht (N.recv x hmem ht _ (List.getElem?_eq_getElem hl) hcr) hsm (S.aw hs[x.line] (List.getElem_mem hl))
    obtain ⟨r, hr⟩ : ∃ r, r = homeRecv cfg hs[x.line] ws x := ⟨_, rfl⟩
    have hrw := homeRecv_ws cfg hs[x.line] ws x hwl (fun c l w d e => S.ret c l w d (e ▸ hmem)) (fun c l w d e => S.giv c l w d (e ▸ hmem))
    have hrn := homeRecv_len cfg hs[x.line] ws x hsm
    rw [← hr] at e1 hrw hrn
    have e2 := replaced_ok (enc := eH) (k + 2) hs x.line r.1 m hl S.hl
    have e3 := addM (xs := rest) (ys := r.2.2) (by omega) (Nat.le_trans hrn (by decide))
    have e4 : dBin .Add (.tup ((mem.map eN).take f)) (.tup (r.2.1.map eN)) = some (.tup ((mem.take f ++ r.2.1).map eN)) := by
      rw [b_addT (by simp; omega), List.map_append, List.map_take]
    have e5 : dBin .Add (.tup ((mem.take f ++ r.2.1).map eN)) (.tup ((mem.map eN).drop (f + cfg.lw))) = some (.tup ((mem.take f ++ r.2.1 ++ mem.drop (f + cfg.lw)).map eN)) := by
      rw [b_addT (by simp; omega), List.map_append, List.map_append, List.map_append, List.map_drop]
    have e6 : ((mem.map eN).drop f).take cfg.lw = ws.map eN := by rw [hws, List.map_take, List.map_drop]
    simp only [hl, List.getElem?_eq_getElem, ← hf, ← hws, ← hr]
    obtain ⟨r1, r2, r3⟩ := r
    obtain ⟨r11, r12, r13⟩ := r1
    obtain ⟨hh, hhh⟩ : ∃ h, h = hs[x.line] := ⟨_, rfl⟩
    rw [← hhh] at e1
    have hhx : hs[x.line]? = some hh := by rw [hhh]; exact List.getElem?_eq_getElem hl
    obtain ⟨mm, hmm⟩ : ∃ mm, mm = mem.take f ++ r2 ++ mem.drop (f + cfg.lw) := ⟨_, rfl⟩
    obtain ⟨m2, hm2⟩ : ∃ mm, mm = mem.take f ++ r2 := ⟨_, rfl⟩
    simp only [← hmm, ← hm2] at e4 e5
    simp only [← hm2] at hmm
    rw [← hmm] at e5
    simp only [← hm2, ← hmm]
    simp at e1 e2 e3
    simp [fi68, s_68, lo0, hx, e0, eM0, eM1, eM2, glb14, kind14, ht, hl, ef, e6, ← hhh, e1, e2, e3, e4, e5]
end Ev

set_option Elab.async false
set_option linter.all false
set_option maxRecDepth 100000
set_option maxHeartbeats 400000
/-! Pu4: steps of the memory system, obtain, the start. -/
namespace Ev
open PySem
def nextSys (cfg : Cfg) (s : Sys) : Act → Option Sys
  | .deliver i => if i ∈ deliv s then some (delivered cfg s i) else none
  | .request c l ex => match s.cs[c]? with
    | none => none
    | some ca => if l < s.hs.length then (requestLine cfg ca c l ex).map fun r => ⟨s.cs.set c r.1, s.hs, s.mem, s.net ++ [r.2]⟩ else none
  | .evict c l => match s.cs[c]? with
    | none => none
    | some ca => if l < s.hs.length then (giveUp ca c l).map fun r => ⟨s.cs.set c r.1, s.hs, s.mem, s.net ++ r.2⟩ else none
  | _ => none
def isSys : Act → Bool
  | .deliver _ => true
  | .request .. => true
  | .evict .. => true
  | _ => false
theorem giveUp_len {ca : Cache} {c l : Nat} {r : Cache × List Msg} (h : giveUp ca c l = some r) : r.2.length ≤ 1 := by
  unfold giveUp at h
  repeat' split at h
  all_goals first | cases h; done | (cases h; simp)
theorem next_ok (k : Nat) (cfg : Cfg) (s : Sys) (a : Act) (m : Sto) (h0 : 0 < cfg.sets) (hlw : cfg.lw ≤ 1000000) (S : SSmall s) (N : NetOk s) (ha : isSys a = true) : fnSem pp (k + 5) 69 [eCfg cfg, eS s, eA a] m = .ok (eO eS (nextSys cfg s a)) m := by
  rw [fnSem_un (fi := fi69) rfl rfl]
  have hnl := S.n
  cases a with
  | deliver i =>
    have e1 := deliv_ok (k + 2) s m S.n (fun x hx _ => N.line x hx)
    simp at e1
    by_cases hi : i ∈ deliv s
    · have e2 := delivered_ok k cfg s i m hlw S N hi
      simp at e2
      simp [fi69, s_69, lo0, e1, hi, nextSys, e2]
    · simp [fi69, s_69, lo0, e1, hi, nextSys]
  | request c l ex =>
    by_cases hc : c < s.cs.length
    · by_cases hl : l < s.hs.length
      · have e1 := request_ok (k + 2) cfg s.cs[c] c l ex m h0 (S.c _ (List.getElem_mem hc))
        unfold nextSys
        cases e : requestLine cfg s.cs[c] c l ex with
        | none =>
          rw [e] at e1
          simp at e1
          simp [fi69, s_69, lo0, hc, hl, e1, e]
        | some r =>
          rw [e] at e1
          have e2 := replaced_ok (enc := eC) (k + 3) s.cs c r.1 m hc S.cl
          have e3 := addM (xs := s.net) (ys := [r.2]) (by omega) (by simp)
          simp [eCM] at e1 e2 e3
          simp [fi69, s_69, lo0, hc, hl, e1, e, e2, e3]
      · have hl' : ¬ (l : Int) < s.hs.length := by omega
        simp [fi69, s_69, lo0, hc, hl, nextSys]
    · simp [fi69, s_69, lo0, hc, nextSys]
  | evict c l =>
    by_cases hc : c < s.cs.length
    · by_cases hl : l < s.hs.length
      · have e1 := give_up_ok (k + 2) s.cs[c] c l m (S.c _ (List.getElem_mem hc))
        unfold nextSys
        cases e : giveUp s.cs[c] c l with
        | none =>
          rw [e] at e1
          simp at e1
          simp [fi69, s_69, lo0, hc, hl, e1, e]
        | some r =>
          rw [e] at e1
          have e2 := replaced_ok (enc := eC) (k + 3) s.cs c r.1 m hc S.cl
          have e3 := addM (xs := s.net) (ys := r.2) (by omega) (Nat.le_trans (giveUp_len e) (by decide))
          simp [eCM] at e1 e2 e3
          simp [fi69, s_69, lo0, hc, hl, e1, e, e2, e3]
      · simp [fi69, s_69, lo0, hc, hl, nextSys]
    · simp [fi69, s_69, lo0, hc, nextSys]
  | _ => cases ha
/-! ### obtain -/
def obtainA (cfg : Cfg) (s : Sys) (core l : Nat) (ex : Bool) : Option Act := match s.cs[core]? with
  | none => none
  | some c => match ent1 c l with
    | some e => if ex && e.st == .sh then some (.request core l true) else none
    | none => if occupied cfg c l < cfg.ways then some (.request core l ex) else (c.lines.find? fun x => inSet cfg x.line l).map fun x => .evict core x.line
theorem obtain_ok (k : Nat) (cfg : Cfg) (t pl ch mk : D) (s : Sys) (core l : Nat) (ex : Bool) (m : Sto) (h0 : 0 < cfg.sets) (hc : core < s.cs.length) (hcs : CSmall s.cs[core]) : fnSem pp (k + 2) 84 [eCfg cfg, .tup [t, pl, eS s, ch, mk], .int core, .int l, .bl ex] m = .ok (eO eA (obtainA cfg s core l ex)) m := by
  rw [fnSem_un (fi := fi84) rfl rfl]
  obtain ⟨cs, hs, mem, net⟩ := s
  simp only at hc hcs
  obtain ⟨c, hcc⟩ : ∃ c, c = cs[core] := ⟨_, rfl⟩
  rw [← hcc] at hcs
  have e1 := entry_of_ok kCE k c.lines l m
  have e4 := occupied_ok k cfg c l m h0 hcs
  have hm := fun a => modN (a := a) h0
  have hf := forL_find (tg := .tup [.name 7, .name 8, .name 9]) (body := evSs gg (fnSem pp (k + 1)) [.ite (.cmp .Eq (.bin .Mod (.var 7) (.fld (.var 0) (K 2))) (.bin .Mod (.var 3) (.fld (.var 0) (K 2)))) [.ret (.tup [(.cst (.str (K 56))), (.var 2), (.var 7)])] []]) eCE (fun x => inSet cfg x.line l) (fun x => eA (.evict core x.line))
    (fun u : Sl × Sl × Sl => [.val (eCfg cfg), .val (.tup [t, pl, eS ⟨cs, hs, mem, net⟩, ch, mk]), .val (.int core), .val (.int l), .val (.bl ex), .val (eC c), .val .non, u.1, u.2.1, u.2.2]) (fun x => (.val (.int x.line), .val (eLS x.st), .val (eNs x.ws))) (fun x u m => by
      by_cases hx : x.line % cfg.sets = l % cfg.sets <;> simp [hm, hx, inSet]) c.lines (.no, .no, .no) m
  unfold obtainA
  simp only [List.getElem?_eq_getElem hc, ← hcc]
  unfold ent1
  simp at e4 hf
  cases c1 : c.lines.find? (fun x => x.line == l) with
  | some e =>
    obtain ⟨el, est, ew⟩ := e
    cases ex <;> cases est <;> simp [fi84, s_84, lo0, hc, ← hcc, e1, c1]
  | none =>
    by_cases c5 : occupied cfg c l < cfg.ways
    · simp [fi84, s_84, lo0, hc, ← hcc, e1, c1, e4, c5]
    · cases c6 : c.lines.find? (fun x => inSet cfg x.line l) with
      | none => simp [c6] at hf; simp [fi84, s_84, lo0, hc, ← hcc, e1, c1, e4, c5, hf, c6]
      | some x => simp [c6] at hf; simp [fi84, s_84, lo0, hc, ← hcc, e1, c1, e4, c5, hf, c6]
end Ev

set_option Elab.async false
set_option linter.all false
set_option maxRecDepth 100000
set_option maxHeartbeats 400000
/-! Pu5: the start, steps of a machine whose cores do nothing. -/
namespace Ev
open PySem
theorem subDivN {n w : Nat} (h : 0 < w) (h2 : w < 1073741824) : dBin .FloorDiv (.int ((n : Int) + (w : Int) - 1)) (.int w) = some (.int (((n + w - 1) / w : Nat) : Int)) := by
  rw [b_div (by omega)]
  have : ((n : Int) + (w : Int) - 1) = ((n + w - 1 : Nat) : Int) := by omega
  rw [this]
  rfl
def nLines (n w : Nat) : Nat := (n + w - 1) / w
theorem lc_const {cal : Nat → List D → Sto → Res D} {lo : Lo} {m : Sto} {i : Nat} {e it : E} {ik : IK} {z : D} {xs : List D} (d : D) (hi : evM gg cal it .b lo m = .ok z m) (h2 : dIter ik [z] = some xs) (ho : ownFree lo [i] = true) (he : ∀ x ∈ xs, evM gg cal e .p (lo.set i (.val x)) m = .ok d m) (hl : xs.length ≤ 1000000) :
    evM gg cal (.lc e (.name i) ik [it] [] [i]) .b lo m = .ok (.lst (xs.map fun _ => d)) m := by
  rw [lc_ok (zs := [z]) xs id (fun _ => some d) (by simp [hi]) (by simp [h2]) ho (fun y hy => by simp [he y hy]) (by omega) (by simp), List.filterMap_eq_map']
@[simp] theorem it_rng {n : Nat} (h : n ≤ 16777216) : dIter .seq [.rng 0 n] = some ((List.range n).map fun k => .int (k : Nat)) := by
  have hn : (n : Int) ≤ 16777216 := by omega
  have h0 : (0 : Int) ≤ n := Int.natCast_nonneg n
  have : rgOk 0 (n : Int) := ⟨by decide +kernel, by decide +kernel, Int.le_trans (by decide +kernel) h0, Int.lt_of_le_of_lt hn (by decide +kernel)⟩
  show (if rgOk 0 (n : Int) then some (rgL 0 n) else none) = _
  rw [if_pos this]
  refine congrArg some ?_
  show (List.range ((n : Int) - 0).toNat).map (fun k => D.int (0 + (k : Nat))) = _
  rw [Int.sub_zero, Int.toNat_natCast]
  exact List.map_congr_left fun k _ => by rw [Int.zero_add]
@[simp] theorem bi_range {n : Nat} {m : Sto} : dBI m .range [.int n] = some (.rng 0 n) := (rfl)
def startSys (cfg : Cfg) (n : Nat) (mem : List Nat) : Sys := ⟨List.replicate n ⟨[], [], []⟩, List.replicate (nLines mem.length cfg.lw) ⟨none, [], none⟩, mem, []⟩
theorem start_system_ok (k : Nat) (cfg : Cfg) (code : D) (ents : List D) (mem : List Nat) (m : Sto) (hw : 0 < cfg.lw) (hw2 : cfg.lw < 1073741824) (he : ents.length ≤ 1000000) (hm : mem.length ≤ 1000000) : fnSem pp (k + 1) 66 [.tup [code, .tup ents, eNs mem], eCfg cfg] m = .ok (eS (startSys cfg ents.length mem)) m := by
  rw [fnSem_un (fi := fi66) rfl rfl]
  have e1 := subDivN (n := mem.length) hw hw2
  obtain ⟨z, hz⟩ : ∃ z, z = (mem.length + cfg.lw - 1) / cfg.lw := ⟨_, rfl⟩
  rw [← hz] at e1
  have hzl : z ≤ 1000000 := by
    have : (mem.length + cfg.lw - 1) / cfg.lw < mem.length + 1 := by
      rw [Nat.div_lt_iff_lt_mul hw, Nat.add_mul, Nat.one_mul]
      have : mem.length ≤ mem.length * cfg.lw := Nat.le_mul_of_pos_right _ hw
      omega
    omega
  simp [fi66, s_66, lo0, e1]
  rw [lc_const (z := .tup ents) (xs := ents) (eC ⟨[], [], []⟩) (by simp) rfl rfl (fun x _ => by simp) he]
  simp
  rw [lc_const (z := .int z) (xs := (List.range z).map fun k => .int (k : Nat)) (eH ⟨none, [], none⟩) (by simp) (it_rg (by omega)) rfl (fun x _ => by simp) (by simpa using hzl)]
  simp [startSys, nLines, ← hz, List.map_const', Function.comp_def]
def startP (e : D) : D := .tup [.tup [e, .tup [.int 0, .int 0, .int 0, .int 0, .int 0, .int 0, .int 0, .int 0], .bl false, .int (-1)], .tup [], .tup [], .bl false, .int 0]
theorem start_pipeline_ok (k : Nat) (code mem : D) (ents : List D) (i : Nat) (hi : i < ents.length) (m : Sto) : fnSem pp (k + 2) 27 [.tup [code, .tup ents, mem], .int i] m = .ok (startP ents[i]) m := by
  have e1 : fnSem pp (k + 1) 19 [.tup [code, .tup ents, mem], .int i] m = .ok (.tup [ents[i], .tup [.int 0, .int 0, .int 0, .int 0, .int 0, .int 0, .int 0, .int 0], .bl false, .int (-1)]) m := by
    rw [fnSem_un (fi := fi19) rfl rfl]
    simp [fi19, s_19, lo0, hi]
  rw [fnSem_un (fi := fi27) rfl rfl]
  simp [fi27, s_27, lo0, e1, startP]
theorem start_machine_ok (k : Nat) (cfg : Cfg) (code : D) (ents : List D) (mem : List Nat) (m : Sto) (hw : 0 < cfg.lw) (hw2 : cfg.lw < 1073741824) (he : ents.length ≤ 1000000) (hm : mem.length ≤ 1000000) :
    fnSem pp (k + 3) 73 [.tup [code, .tup ents, eNs mem], eCfg cfg] m = .ok (.tup [.int 0, .tup (ents.map startP), eS (startSys cfg ents.length mem), .tup (ents.map fun _ => .tup []), .tup []]) m := by
  rw [fnSem_un (fi := fi73) rfl rfl]
  have e1 := start_system_ok (k + 1) cfg code ents mem m hw hw2 he hm
  simp [startSys] at e1
  simp [fi73, s_73, lo0]
  rw [lc_ok (zs := [.rng 0 ents.length]) (List.range ents.length) (fun i : Nat => .int (i : Int)) (fun i => some (startP (ents.getD i .non))) (by simp) (it_rng (by omega)) rfl (fun i hi => by
    have hi := List.mem_range.mp hi
    have := start_pipeline_ok k code (eNs mem) ents i hi m
    simp at this
    simp [this, hi]) (by simp; omega) (by simp), List.filterMap_eq_map']
  simp [e1]
  rw [lc_const (z := .rng 0 ents.length) (xs := (List.range ents.length).map fun k => .int (k : Nat)) (.tup []) (by simp) (it_rng (by omega)) rfl (fun x _ => by simp) (by simpa using he)]
  have hr : (List.range ents.length).map (fun i => startP (ents.getD i .non)) = ents.map startP := by
    apply List.ext_getElem (by simp)
    intro i h1 h2
    simp at h1
    simp [h1]
  simp at hr
  simp [startSys, hr, List.map_const', Function.comp_def]
@[simp] theorem turn_2 {cal : Nat → List D → Sto → Res D} {elt : E} {i j : Nat} {ifs : List E} {own : List Nat} {l : Lo} {x y : D} {m : Sto} : turn gg cal elt (.tup [.name i, .name j]) ifs own l (.tup [x, y]) m = (evTs gg cal true ifs (((wipeL l own).set i (.val x)).set j (.val y)) m).bind fun k m => match k with
    | .bl true => (evM gg cal elt .p (((wipeL l own).set i (.val x)).set j (.val y)) m).bind fun y m => .ok (some y) m
    | .bl false => .ok none m
    | _ => .bad := (rfl)
/-! ### a step -/
def Keeps (cfg : Cfg) (k : Nat) (p : D) : Prop := ∀ (c : D) (m : Sto), fnSem pp k 58 [eCfg cfg, p, c] m = .ok p m
theorem startP_keeps (cfg : Cfg) (k : Nat) (e : D) : Keeps cfg (k + 1) (startP e) := by
  intro c m
  rw [fnSem_un (fi := fi58) rfl rfl]
  simp [fi58, s_58, lo0, startP]
theorem nextSys_cs {cfg : Cfg} {s s' : Sys} {a : Act} (h : nextSys cfg s a = some s') : s'.cs.length = s.cs.length := by
  cases a with
  | deliver i =>
    have h : (if i ∈ deliv s then some (delivered cfg s i) else none) = some s' := h
    split at h
    · rw [← Option.some.inj h]
      unfold delivered
      split
      · rfl
      · dsimp only
        split
        · split <;> rfl
        · split
          · rfl
          · simp
    · cases h
  | request c l ex =>
    have h : (match s.cs[c]? with
    | none => none
    | some ca => if l < s.hs.length then (requestLine cfg ca c l ex).map fun r => (⟨s.cs.set c r.1, s.hs, s.mem, s.net ++ [r.2]⟩ : Sys) else none) = some s' := h
    split at h
    · cases h
    · split at h
      · obtain ⟨r, _, rfl⟩ := Option.map_eq_some_iff.mp h
        simp
      · cases h
  | evict c l =>
    have h : (match s.cs[c]? with
    | none => none
    | some ca => if l < s.hs.length then (giveUp ca c l).map fun r => (⟨s.cs.set c r.1, s.hs, s.mem, s.net ++ r.2⟩ : Sys) else none) = some s' := h
    split at h
    · cases h
    · split at h
      · obtain ⟨r, _, rfl⟩ := Option.map_eq_some_iff.mp h
        simp
      · cases h
  | _ => cases h
theorem eA_kind {a : Act} (ha : isSys a = true) (m : Sto) : ∃ s, dIdx m (eA a) (.int 0) = some (.str s) ∧ dIn (.str s) [.str (K 50), .str (K 56), .str (K 49)] = some true := by
  have h := fun s => in_str (s := s) (ts := [K 50, K 56, K 49])
  simp only [List.map_cons, List.map_nil] at h
  cases a with
  | deliver i => exact ⟨K 49, by simp, by rw [h]; rfl⟩
  | request c l ex => exact ⟨K 50, by simp, by rw [h]; rfl⟩
  | evict c l => exact ⟨K 56, by simp, by rw [h]; rfl⟩
  | _ => cases ha
def stepM (cfg : Cfg) (t : Int) (pl : List D) (s : Sys) (ch mk : D) (a : Act) : D := match nextSys cfg s a with
  | none => .non
  | some s' => .tup [.int (t + 1), .tup pl, eS s', ch, mk]
theorem after_ok (k : Nat) (cfg : Cfg) (prog ch mk : D) (pl : List D) (t : Int) (s : Sys) (a : Act) (m : Sto) (h0 : 0 < cfg.sets) (hlw : cfg.lw ≤ 1000000) (S : SSmall s) (N : NetOk s) (ha : isSys a = true) (hp : ∀ p ∈ pl, Keeps cfg (k + 6) p) (hl : pl.length = s.cs.length) :
    fnSem pp (k + 7) 80 [prog, eCfg cfg, .tup [.int t, .tup pl, eS s, ch, mk], eA a] m = .ok (stepM cfg t pl s ch mk a) m := by
  have e1 := next_ok k cfg s a m h0 hlw S N ha
  obtain ⟨z, hz1, hz2⟩ := eA_kind ha m
  have e2 : fnSem pp (k + 6) 79 [prog, eCfg cfg, .tup [.int t, .tup pl, eS s, ch, mk], eA a] m = .ok (match nextSys cfg s a with
    | none => .non
    | some s' => .tup [.int t, .tup pl, eS s', ch, mk]) m := by
    rw [fnSem_un (fi := fi79) rfl rfl]
    cases e : nextSys cfg s a with
    | none => simp [e] at e1; simp [fi79, s_79, lo0, hz1, hz2, e1]
    | some s' => simp [e] at e1; simp [fi79, s_79, lo0, hz1, hz2, e1]
  rw [fnSem_un (fi := fi80) rfl rfl]
  unfold stepM
  cases e : nextSys cfg s a with
  | none => simp [e] at e2; simp [fi80, s_80, lo0, e2]
  | some s' =>
    simp [e] at e2
    have hcs := nextSys_cs e
    simp [fi80, s_80, lo0, e2]
    rw [lc_ok (zs := [.tup pl, .tup (s'.cs.map eC)]) (pl.zip (s'.cs.map eC)) (fun p => .tup [p.1, p.2]) (fun p => some p.1) (by simp) (by simp) rfl (fun p hp' => by
      have := hp p.1 (List.of_mem_zip hp').1 p.2 m
      simp [this]) (by have := S.cl; simp; omega) (by simp), List.filterMap_eq_map']
    have : (pl.zip (s'.cs.map eC)).map (fun p => p.1) = pl := by
      have := List.map_fst_zip (l₁ := pl) (l₂ := s'.cs.map eC) (by simp; omega)
      exact this
    simp [this]
end Ev

set_option Elab.async false
set_option linter.all false
set_option maxRecDepth 100000
set_option maxHeartbeats 400000
/-! In1: the directory protocol of one line: what holds at all times. -/
namespace Ev
open PySem
/-- what a core's cache knows of the line -/
structure LE where
  e1 : Option (LSt × List Nat)
  r : Bool
  e3 : Option (Option (List Nat) × Bool)
def isB : Msg → Bool
  | .recall .. => true
  | .retd .. => true
  | .grant .. => true
  | .recd .. => true
  | _ => false
def getOf (c : Nat) : Msg → Bool
  | .gets c' _ => c' == c
  | .getm c' _ => c' == c
  | _ => false
def givOf (c : Nat) : Msg → Bool
  | .give c' _ _ _ => c' == c
  | _ => false
def cnfOf (c : Nat) : Msg → Bool
  | .conf c' _ => c' == c
  | _ => false
def invOf (c : Nat) : Msg → Bool
  | .inval c' _ => c' == c
  | .invald c' _ => c' == c
  | _ => false
def recdOf (c : Nat) : Msg → Bool
  | .recd c' _ => c' == c
  | _ => false
def awtOf (h : Home) : List Nat := match h.srv with
  | none => []
  | some s => s.awt
def pend (h : Home) (B : List Msg) (c : Nat) : Nat := match h.srv with
  | none => 0
  | some s => if s.core = c ∧ B.any (recdOf c) = false then 1 else 0
/-- the core can give the line's words back -/
def Has (e : LE) : Prop := (∃ st w, e.e1 = some (st, w) ∧ st ≠ .sh) ∨ (e.e1 = none ∧ ∃ w d, e.e3 = some (some w, d))
def SInv (n L : Nat) (E : Nat → LE) (h : Home) (B : List Msg) : Prop := match h.srv with
  | none => B = [] ∧ ∀ o, h.own = some o → Has (E o)
  | some s => s.core < n ∧
      ((s.rcl = true ∧ s.gr = false ∧ s.ws = none ∧ s.awt = [] ∧ ∃ o, h.own = some o ∧ ((∃ k, B = [.recall o L k]) ∧ Has (E o) ∨ ∃ w d, B = [.retd o L (some w) d])) ∨
       (s.rcl = false ∧ s.gr = false ∧ s.ws.isSome = true ∧ s.awt ≠ [] ∧ h.own = none ∧ B = []) ∨
       (s.rcl = false ∧ s.gr = true ∧ s.ws.isSome = true ∧ s.awt = [] ∧ (∀ o, h.own = some o → o = s.core) ∧
         ((∃ st w, B = [.grant s.core L st w] ∧ (h.own = some s.core → st ≠ .sh)) ∨ (B = [.recd s.core L] ∧ (h.own = some s.core → Has (E s.core))))))
def msgW (wl : Nat) : Msg → Prop
  | .give _ _ w _ => w.length = wl
  | .grant _ _ _ w => w.length = wl
  | .retd _ _ w _ => ∀ u, w = some u → u.length = wl
  | _ => True
structure LInvG (SI : Prop) (n wl L : Nat) (E : Nat → LE) (h : Home) (N : List Msg) : Prop where
  lin : ∀ x ∈ N, x.line = L
  cor : ∀ x ∈ N, x.core < n
  nd : h.shs.Nodup
  bo : ∀ o, h.own = some o → o < n
  bs : ∀ o ∈ h.shs, o < n
  an : (awtOf h).Nodup
  ab : ∀ a ∈ awtOf h, a < n
  k1 : ∀ c, N.countP (getOf c) + pend h (N.filter isB) c = (E c).r.toNat
  k2 : ∀ c, (E c).r = true → (E c).e3 = none
  k3 : ∀ c, N.countP (givOf c) + N.countP (cnfOf c) = (E c).e3.isSome.toNat
  k4 : ∀ c, (E c).e1.isSome = true → (E c).e3 = none
  ai : ∀ a, N.countP (invOf a) = if a ∈ awtOf h then 1 else 0
  cf : ∀ c, 0 < N.countP (cnfOf c) → h.own ≠ some c
  si : SI
  w1 : ∀ c st w, (E c).e1 = some (st, w) → w.length = wl
  w3 : ∀ c w d, (E c).e3 = some (some w, d) → w.length = wl
  wh : ∀ s w, h.srv = some s → s.ws = some w → w.length = wl
  wm : ∀ x ∈ N, msgW wl x
abbrev LInv (n wl L : Nat) (E : Nat → LE) (h : Home) (N : List Msg) : Prop := LInvG (SInv n L E h (N.filter isB)) n wl L E h N
def upd (E : Nat → LE) (c : Nat) (x : LE) : Nat → LE := fun i => if i = c then x else E i
@[simp] theorem upd_same {E : Nat → LE} {c : Nat} {x : LE} : upd E c x c = x := if_pos rfl
theorem upd_ne {E : Nat → LE} {c i : Nat} {x : LE} (h : i ≠ c) : upd E c x i = E i := if_neg h
theorem SInv.congr {n L : Nat} {E E' : Nat → LE} {h : Home} {B : List Msg} (hh : ∀ o, h.own = some o → Has (E o) → Has (E' o)) (S : SInv n L E h B) : SInv n L E' h B := by
  unfold SInv at *
  cases e : h.srv with
  | none =>
    rw [e] at S
    exact ⟨S.1, fun o ho => hh o ho (S.2 o ho)⟩
  | some s =>
    rw [e] at S
    obtain ⟨h1, S⟩ := S
    refine ⟨h1, ?_⟩
    rcases S with ⟨a, b, c, d, o, ho, S⟩ | S | ⟨a, b, c, d, f, S⟩
    · refine .inl ⟨a, b, c, d, o, ho, ?_⟩
      rcases S with ⟨x, y⟩ | S
      · exact .inl ⟨x, hh o ho y⟩
      · exact .inr S
    · exact .inr (.inl S)
    · refine .inr (.inr ⟨a, b, c, d, f, ?_⟩)
      rcases S with S | ⟨x, y⟩
      · exact .inl S
      · exact .inr ⟨x, fun z => hh _ z (y z)⟩
/-! ### requests, giving up -/
theorem LInv_request {n wl L : Nat} {E : Nat → LE} {h : Home} {N : List Msg} (I : LInv n wl L E h N) {c : Nat} (hc : c < n) (hr : (E c).r = false) (h3 : (E c).e3 = none) {x : Msg} (hx : x = .gets c L ∨ x = .getm c L) : LInv n wl L (upd E c { E c with r := true }) h (N ++ [x]) := by
  have hx1 : x.line = L ∧ x.core = c ∧ isB x = false ∧ (∀ i, getOf i x = (c == i)) ∧ (∀ i, givOf i x = false) ∧ (∀ i, cnfOf i x = false) ∧ (∀ i, invOf i x = false) ∧ msgW wl x := by
    rcases hx with rfl | rfl <;> exact ⟨rfl, rfl, rfl, fun _ => rfl, fun _ => rfl, fun _ => rfl, fun _ => rfl, trivial⟩
  obtain ⟨x1, x2, x3, x4, x5, x6, x7, x8⟩ := hx1
  have hf : (N ++ [x]).filter isB = N.filter isB := by simp [x3]
  refine ⟨?_, ?_, I.nd, I.bo, I.bs, I.an, I.ab, fun i => ?_, fun i hi => ?_, fun i => ?_, fun i hi => ?_, fun a => ?_, fun i hi => ?_, ?_, fun i st w e => ?_, fun i w d e => ?_, I.wh, ?_⟩
  · intro y hy
    rcases List.mem_append.mp hy with hy | hy
    · exact I.lin y hy
    · rw [List.mem_singleton.mp hy]; exact x1
  · intro y hy
    rcases List.mem_append.mp hy with hy | hy
    · exact I.cor y hy
    · rw [List.mem_singleton.mp hy, x2]; exact hc
  · have := I.k1 i
    rw [hf]
    by_cases e : i = c
    · subst e
      rw [hr] at this
      simp only [Bool.toNat_false] at this
      simp [x4]
      omega
    · rw [upd_ne e]
      simp [x4, Ne.symm e, show ¬ c = i from fun z => e z.symm]
      exact this
  · by_cases e : i = c
    · subst e; simpa using h3
    · rw [upd_ne e] at hi ⊢
      exact I.k2 i hi
  · have := I.k3 i
    simp [x5, x6]
    by_cases e : i = c
    · subst e; simpa using this
    · rw [upd_ne e]; exact this
  · by_cases e : i = c
    · subst e; simpa using h3
    · rw [upd_ne e] at hi ⊢
      exact I.k4 i hi
  · have := I.ai a
    simp [x7]
    exact this
  · simp [x6] at hi
    exact I.cf i (List.countP_pos_iff.mpr hi)
  · rw [hf]
    refine I.si.congr fun o ho hh => ?_
    by_cases e : o = c
    · subst e; simpa [Has] using hh
    · rw [upd_ne e]; exact hh
  · by_cases e2 : i = c
    · subst e2; exact I.w1 i st w (by simpa using e)
    · rw [upd_ne e2] at e; exact I.w1 i st w e
  · by_cases e2 : i = c
    · subst e2; exact I.w3 i w d (by simpa using e)
    · rw [upd_ne e2] at e; exact I.w3 i w d e
  · intro y hy
    rcases List.mem_append.mp hy with hy | hy
    · exact I.wm y hy
    · rw [List.mem_singleton.mp hy]; exact x8
theorem LInv_evict {n wl L : Nat} {E : Nat → LE} {h : Home} {N : List Msg} (I : LInv n wl L E h N) {c : Nat} (hc : c < n) (hr : (E c).r = false) {st : LSt} {w : List Nat} (h1 : (E c).e1 = some (st, w)) {d : Bool} :
    LInv n wl L (upd E c (if st = .sh then { E c with e1 := none } else { E c with e1 := none, e3 := some (some w, d) })) h (N ++ if st = .sh then [] else [.give c L w d]) := by
  have h3 : (E c).e3 = none := I.k4 c (by rw [h1]; rfl)
  have hHas : Has (E c) → st ≠ .sh := by
    intro hh
    rcases hh with ⟨st', w', e, e2⟩ | ⟨e, _⟩
    · rw [h1] at e; cases e; exact e2
    · rw [h1] at e; cases e
  by_cases hs : st = .sh
  · rw [if_pos hs, if_pos hs, List.append_nil]
    refine ⟨I.lin, I.cor, I.nd, I.bo, I.bs, I.an, I.ab, fun i => ?_, fun i hi => ?_, fun i => ?_, fun i hi => ?_, I.ai, I.cf, ?_, fun i st w e => ?_, fun i w d e => ?_, I.wh, I.wm⟩
    · have := I.k1 i
      by_cases e : i = c
      · subst e; simpa using this
      · rw [upd_ne e]; exact this
    · by_cases e : i = c
      · subst e; simpa using h3
      · rw [upd_ne e] at hi ⊢; exact I.k2 i hi
    · have := I.k3 i
      by_cases e : i = c
      · subst e; simpa using this
      · rw [upd_ne e]; exact this
    · by_cases e : i = c
      · subst e; simpa using h3
      · rw [upd_ne e] at hi ⊢; exact I.k4 i hi
    · refine I.si.congr fun o ho hh => ?_
      by_cases e : o = c
      · subst e; exact absurd hs (hHas hh)
      · rw [upd_ne e]; exact hh
    · by_cases e2 : i = c
      · subst e2; simp at e
      · rw [upd_ne e2] at e; exact I.w1 i st w e
    · by_cases e2 : i = c
      · subst e2; exact I.w3 i w d (by simpa using e)
      · rw [upd_ne e2] at e; exact I.w3 i w d e
  · rw [if_neg hs, if_neg hs]
    have hf : (N ++ [Msg.give c L w d]).filter isB = N.filter isB := by simp [isB]
    refine ⟨?_, ?_, I.nd, I.bo, I.bs, I.an, I.ab, fun i => ?_, fun i hi => ?_, fun i => ?_, fun i hi => ?_, fun a => ?_, fun i hi => ?_, ?_, fun i st' w' e => ?_, fun i w' d' e => ?_, I.wh, ?_⟩
    · intro y hy
      rcases List.mem_append.mp hy with hy | hy
      · exact I.lin y hy
      · rw [List.mem_singleton.mp hy]; rfl
    · intro y hy
      rcases List.mem_append.mp hy with hy | hy
      · exact I.cor y hy
      · rw [List.mem_singleton.mp hy]; exact hc
    · have := I.k1 i
      rw [hf]
      by_cases e : i = c
      · subst e; simpa [getOf] using this
      · rw [upd_ne e]; simpa [getOf] using this
    · by_cases e : i = c
      · subst e; simp [hr] at hi
      · rw [upd_ne e] at hi ⊢; exact I.k2 i hi
    · have := I.k3 i
      by_cases e : i = c
      · subst e
        rw [h3] at this
        simp only [Option.isSome_none, Bool.toNat_false] at this
        simp [givOf, cnfOf]
        omega
      · rw [upd_ne e]
        simp [givOf, cnfOf, show ¬ c = i from fun z => e z.symm]
        exact this
    · by_cases e : i = c
      · subst e; simp at hi
      · rw [upd_ne e] at hi ⊢; exact I.k4 i hi
    · have := I.ai a
      simp [invOf]
      exact this
    · simp [cnfOf] at hi
      exact I.cf i (List.countP_pos_iff.mpr hi)
    · rw [hf]
      refine I.si.congr fun o ho hh => ?_
      by_cases e : o = c
      · subst e; exact .inr (by simp)
      · rw [upd_ne e]; exact hh
    · by_cases e2 : i = c
      · subst e2; simp at e
      · rw [upd_ne e2] at e; exact I.w1 i st' w' e
    · by_cases e2 : i = c
      · subst e2
        simp at e
        rw [← e.1]
        exact I.w1 i st w h1
      · rw [upd_ne e2] at e; exact I.w3 i w' d' e
    · intro y hy
      rcases List.mem_append.mp hy with hy | hy
      · exact I.wm y hy
      · rw [List.mem_singleton.mp hy]; exact I.w1 c st w h1

/-! ### deliveries to a cache -/
theorem B_one {N1 N2 : List Msg} {x z : Msg} (h : (N1 ++ x :: N2).filter isB = [z]) (hx : isB x = true) : z = x ∧ (N1 ++ N2).filter isB = [] := by
  rw [List.filter_append, List.filter_cons_of_pos hx] at h
  cases e : N1.filter isB with
  | nil =>
    rw [e] at h
    obtain ⟨h1, h2⟩ := List.cons.inj h
    exact ⟨h1.symm, by rw [List.filter_append, e, h2]; rfl⟩
  | cons a l =>
    rw [e] at h
    have := (List.cons.inj h).2
    simp at this
theorem B_no {N1 N2 : List Msg} {x : Msg} (hx : isB x = false) : (N1 ++ x :: N2).filter isB = (N1 ++ N2).filter isB := by
  simp [hx]
def lrecv (e : LE) : Msg → LE × List Msg
  | .recall c l keep => match e.e1 with
    | some (st, w) => ({ e with e1 := if keep then some (.sh, w) else none }, [.retd c l (some w) (st == .mo)])
    | none => match e.e3 with
      | some (w, d) => ({ e with e3 := some (none, d) }, [.retd c l w d])
      | none => (e, [])
  | .inval c l => ({ e with e1 := none }, [.invald c l])
  | .grant c l s w => ({ e with e1 := some (s, w), r := false }, [.recd c l])
  | .conf .. => ({ e with e3 := none }, [])
  | _ => (e, [])
variable {n wl L : Nat} {E : Nat → LE} {h : Home} {N1 N2 : List Msg}
theorem lrecv_1 {e : LE} {c l : Nat} {keep : Bool} {st : LSt} {w : List Nat} (h : e.e1 = some (st, w)) : lrecv e (.recall c l keep) = (⟨if keep then some (.sh, w) else none, e.r, e.e3⟩, [.retd c l (some w) (st == .mo)]) := by
  unfold lrecv
  simp only [h]
theorem lrecv_2 {e : LE} {c l : Nat} {keep : Bool} {w : Option (List Nat)} {d : Bool} (h : e.e1 = none) (h3 : e.e3 = some (w, d)) : lrecv e (.recall c l keep) = (⟨e.e1, e.r, some (none, d)⟩, [.retd c l w d]) := by
  unfold lrecv
  simp only [h, h3]
/-- the messages stay those of the line and its cores -/
theorem mem_mid {N1 N2 ys : List Msg} {x y : Msg} (hy : y ∈ N1 ++ N2 ++ ys) : y ∈ N1 ++ x :: N2 ∨ y ∈ ys := by
  rcases List.mem_append.mp hy with hy | hy
  · rcases List.mem_append.mp hy with hy | hy
    · exact .inl (List.mem_append_left _ hy)
    · exact .inl (List.mem_append_right _ (List.mem_cons_of_mem _ hy))
  · exact .inr hy
theorem has_of {e : LE} (h : Has e) : (∃ st w, e.e1 = some (st, w)) ∨ (e.e1 = none ∧ ∃ w d, e.e3 = some (some w, d)) := by
  rcases h with ⟨st, w, h, _⟩ | h
  · exact .inl ⟨st, w, h⟩
  · exact .inr h
theorem LInv_recall {c : Nat} {keep : Bool} (I : LInv n wl L E h (N1 ++ .recall c L keep :: N2)) :
    Has (E c) ∧ LInv n wl L (upd E c (lrecv (E c) (.recall c L keep)).1) h (N1 ++ N2 ++ (lrecv (E c) (.recall c L keep)).2) := by
  have hx : isB (.recall c L keep) = true := rfl
  have hlin : ∀ y ∈ N1 ++ N2, y ∈ N1 ++ Msg.recall c L keep :: N2 := fun y hy => by
    rcases List.mem_append.mp hy with hy | hy
    · exact List.mem_append_left _ hy
    · exact List.mem_append_right _ (List.mem_cons_of_mem _ hy)
  have hc := I.cor (.recall c L keep) (by simp)
  -- the home waits for it
  have key : ∃ s, h.srv = some s ∧ s.core < n ∧ s.rcl = true ∧ s.gr = false ∧ s.ws = none ∧ s.awt = [] ∧ h.own = some c ∧ Has (E c) ∧ (N1 ++ N2).filter isB = [] ∧ (N1 ++ Msg.recall c L keep :: N2).filter isB = [.recall c L keep] := by
    have S := I.si
    unfold SInv at S
    cases e : h.srv with
    | none =>
      rw [e] at S
      have := S.1
      simp [hx] at this
    | some s =>
      rw [e] at S
      obtain ⟨s1, S⟩ := S
      rcases S with ⟨a, b, d, f, o, ho, S⟩ | ⟨_, _, _, _, _, S⟩ | ⟨_, _, _, _, _, S⟩
      · rcases S with ⟨⟨k, S⟩, g⟩ | ⟨w, d', S⟩
        · obtain ⟨z1, z2⟩ := B_one S hx
          cases z1
          exact ⟨s, rfl, s1, a, b, d, f, ho, g, z2, S⟩
        · obtain ⟨z1, z2⟩ := B_one S hx
          cases z1
      · simp [hx] at S
      · rcases S with ⟨st, w, S, _⟩ | ⟨S, _⟩
        · obtain ⟨z1, z2⟩ := B_one S hx
          cases z1
        · obtain ⟨z1, z2⟩ := B_one S hx
          cases z1
  obtain ⟨s, hs, s1, s2, s3, s4, s5, ho, hH, hB, hB1⟩ := key
  refine ⟨hH, ?_⟩
  obtain ⟨e', y, w, d, he, hy, hr, h3, h1, hw, hw1, hw3⟩ : ∃ e' y w d, lrecv (E c) (.recall c L keep) = (e', [y]) ∧ y = .retd c L (some w) d ∧ e'.r = (E c).r ∧ e'.e3.isSome = (E c).e3.isSome ∧ (e'.e1.isSome = true → (E c).e1.isSome = true) ∧ w.length = wl ∧
      (∀ st w, e'.e1 = some (st, w) → w.length = wl) ∧ (∀ w d, e'.e3 = some (some w, d) → w.length = wl) := by
    rcases has_of hH with ⟨st, w, g⟩ | ⟨g, w, d, g2⟩
    · refine ⟨⟨if keep then some (.sh, w) else none, (E c).r, (E c).e3⟩, _, w, st == .mo, lrecv_1 g, rfl, rfl, rfl, fun _ => by rw [g]; rfl, I.w1 c st w g, fun st' w' z => ?_, fun w' d' z => I.w3 c w' d' z⟩
      cases keep with
      | true => cases z; exact I.w1 c st _ g
      | false => cases z
    · refine ⟨⟨(E c).e1, (E c).r, some (none, d)⟩, _, w, d, lrecv_2 g g2, rfl, rfl, by rw [g2]; rfl, fun z => z, I.w3 c w d g2, fun st' w' z => I.w1 c st' w' z, fun w' d' z => ?_⟩
      cases z
  rw [he]
  subst hy
  have hB2 : (N1 ++ N2 ++ [Msg.retd c L (some w) d]).filter isB = [.retd c L (some w) d] := by
    rw [List.filter_append, hB]; rfl
  refine ⟨fun y hy => ?_, fun y hy => ?_, I.nd, I.bo, I.bs, I.an, I.ab, fun i => ?_, fun i hi => ?_, fun i => ?_, fun i hi => ?_, fun a => ?_, fun i hi => ?_, ?_, fun i st' w' e => ?_, fun i w' d' e => ?_, I.wh, fun y hy => ?_⟩
  · rcases mem_mid (x := .recall c L keep) hy with hy | hy
    · exact I.lin y hy
    · rw [List.mem_singleton.mp hy]; rfl
  · rcases mem_mid (x := .recall c L keep) hy with hy | hy
    · exact I.cor y hy
    · rw [List.mem_singleton.mp hy]; exact hc
  · have := I.k1 i
    have hp : pend h ((N1 ++ N2 ++ [Msg.retd c L (some w) d]).filter isB) i = pend h ((N1 ++ Msg.recall c L keep :: N2).filter isB) i := by
      rw [hB2, hB1]
      unfold pend
      rw [hs]
      rfl
    rw [hp]
    have hr' : (upd E c e' i).r = (E i).r := by
      by_cases e : i = c
      · subst e; rw [upd_same]; exact hr
      · rw [upd_ne e]
    rw [hr', ← this]
    simp [getOf]
  · by_cases e : i = c
    · subst e
      rw [upd_same] at hi ⊢
      have := I.k2 i (hr ▸ hi)
      rw [this] at h3
      cases z : e'.e3 with
      | none => rfl
      | some _ => rw [z] at h3; cases h3
    · rw [upd_ne e] at hi ⊢; exact I.k2 i hi
  · have := I.k3 i
    have hr' : (upd E c e' i).e3.isSome = (E i).e3.isSome := by
      by_cases e : i = c
      · subst e; rw [upd_same]; exact h3
      · rw [upd_ne e]
    rw [hr', ← this]
    simp [givOf, cnfOf]
  · by_cases e : i = c
    · subst e
      rw [upd_same] at hi ⊢
      have := I.k4 i (h1 hi)
      rw [this] at h3
      cases z : e'.e3 with
      | none => rfl
      | some _ => rw [z] at h3; cases h3
    · rw [upd_ne e] at hi ⊢; exact I.k4 i hi
  · have := I.ai a
    rw [← this]
    simp [invOf]
  · refine I.cf i ?_
    simp [cnfOf] at hi ⊢
    exact hi
  · rw [hB2]
    unfold SInv
    rw [hs]
    exact ⟨s1, .inl ⟨s2, s3, s4, s5, c, ho, .inr ⟨w, d, rfl⟩⟩⟩
  · by_cases e2 : i = c
    · subst e2; rw [upd_same] at e; exact hw1 _ _ e
    · rw [upd_ne e2] at e; exact I.w1 i st' w' e
  · by_cases e2 : i = c
    · subst e2; rw [upd_same] at e; exact hw3 _ _ e
    · rw [upd_ne e2] at e; exact I.w3 i w' d' e
  · rcases mem_mid (x := .recall c L keep) hy with hy | hy
    · exact I.wm y hy
    · rw [List.mem_singleton.mp hy]
      intro u hu
      cases hu
      exact hw

theorem mid_all {P : Msg → Prop} {N1 N2 ys : List Msg} {x : Msg} (h : ∀ y ∈ N1 ++ x :: N2, P y) (hy : ∀ y ∈ ys, P y) : ∀ y ∈ N1 ++ N2 ++ ys, P y := fun y hm => by
  rcases mem_mid (x := x) hm with hm | hm
  · exact h y hm
  · exact hy y hm
theorem cnt_mid (p : Msg → Bool) {N1 N2 ys : List Msg} {x : Msg} : (N1 ++ N2 ++ ys).countP p + (p x).toNat = (N1 ++ x :: N2).countP p + ys.countP p := by
  simp only [List.countP_append, List.countP_cons]
  cases p x <;> simp <;> omega
theorem cnt_mid1 (p : Msg → Bool) {N1 N2 : List Msg} {x y : Msg} : (N1 ++ N2 ++ [y]).countP p + (p x).toNat = (N1 ++ x :: N2).countP p + (p y).toNat := by
  rw [cnt_mid, List.countP_singleton]
  cases p y <;> rfl
theorem one_all {P : Msg → Prop} {y : Msg} (h : P y) : ∀ z ∈ [y], P z := fun z hz => by rw [List.mem_singleton.mp hz]; exact h
theorem no_all {P : Msg → Prop} : ∀ z ∈ ([] : List Msg), P z := fun z hz => by cases hz
theorem LInv_inval {c : Nat} (I : LInv n wl L E h (N1 ++ .inval c L :: N2)) : LInv n wl L (upd E c (lrecv (E c) (.inval c L)).1) h (N1 ++ N2 ++ (lrecv (E c) (.inval c L)).2) := by
  have hc : c < n := I.cor (.inval c L) (by simp)
  have hB : (N1 ++ N2 ++ [Msg.invald c L]).filter isB = (N1 ++ Msg.inval c L :: N2).filter isB := by simp [isB]
  have hcnt := fun p => cnt_mid1 p (N1 := N1) (N2 := N2) (x := .inval c L) (y := .invald c L)
  have hown : h.own = none := by
    have ha := I.ai c
    have h1 := hcnt (invOf c)
    simp [invOf] at h1
    have hm : c ∈ awtOf h := by
      apply Classical.byContradiction
      intro hn
      rw [if_neg hn] at ha
      simp [invOf] at ha
    have S := I.si
    unfold SInv at S
    unfold awtOf at hm
    cases e : h.srv with
    | none => rw [e] at hm; cases hm
    | some s =>
      rw [e] at hm S
      simp only at hm
      rcases S.2 with ⟨_, _, _, z, _⟩ | ⟨_, _, _, _, z, _⟩ | ⟨_, _, _, z, _⟩
      · rw [z] at hm; cases hm
      · exact z
      · rw [z] at hm; cases hm
  show LInv n wl L (upd E c { E c with e1 := none }) h (N1 ++ N2 ++ [.invald c L])
  refine ⟨mid_all I.lin (one_all rfl), mid_all I.cor (one_all hc), I.nd, I.bo, I.bs, I.an, I.ab, fun i => ?_, fun i hi => ?_, fun i => ?_, fun i hi => ?_, fun a => ?_, fun i hi => ?_, ?_, fun i st' w' e => ?_, fun i w' d' e => ?_, I.wh, mid_all I.wm (one_all trivial)⟩
  · have h1 := I.k1 i
    have h2 := hcnt (getOf i)
    rw [hB]
    have hr' : (upd E c { E c with e1 := none } i).r = (E i).r := by
      by_cases e : i = c
      · subst e; rw [upd_same]
      · rw [upd_ne e]
    rw [hr', ← h1]
    simp [getOf] at h2 ⊢
  · by_cases e : i = c
    · subst e; rw [upd_same] at hi ⊢; exact I.k2 i hi
    · rw [upd_ne e] at hi ⊢; exact I.k2 i hi
  · have h1 := I.k3 i
    have hr' : (upd E c { E c with e1 := none } i).e3 = (E i).e3 := by
      by_cases e : i = c
      · subst e; rw [upd_same]
      · rw [upd_ne e]
    rw [hr', ← h1]
    simp [givOf, cnfOf]
  · by_cases e : i = c
    · subst e; rw [upd_same] at hi; cases hi
    · rw [upd_ne e] at hi ⊢; exact I.k4 i hi
  · have h1 := I.ai a
    have h2 := hcnt (invOf a)
    rw [← h1]
    simp only [invOf] at h2
    omega
  · refine I.cf i ?_
    simp [cnfOf] at hi ⊢
    exact hi
  · rw [hB]
    exact I.si.congr fun o ho _ => by rw [hown] at ho; cases ho
  · by_cases e2 : i = c
    · subst e2; rw [upd_same] at e; cases e
    · rw [upd_ne e2] at e; exact I.w1 i st' w' e
  · by_cases e2 : i = c
    · subst e2; rw [upd_same] at e; exact I.w3 i w' d' e
    · rw [upd_ne e2] at e; exact I.w3 i w' d' e
theorem LInv_grant {c : Nat} {st : LSt} {w : List Nat} (I : LInv n wl L E h (N1 ++ .grant c L st w :: N2)) : LInv n wl L (upd E c (lrecv (E c) (.grant c L st w)).1) h (N1 ++ N2 ++ (lrecv (E c) (.grant c L st w)).2) := by
  have hc : c < n := I.cor (.grant c L st w) (by simp)
  have hx : isB (.grant c L st w) = true := rfl
  obtain ⟨s, hs, s1, s2, s3, s4, s5, s6, ho, hst, hB, hB1⟩ : ∃ s, h.srv = some s ∧ s.core < n ∧ s.rcl = false ∧ s.gr = true ∧ s.ws.isSome = true ∧ s.awt = [] ∧ s.core = c ∧ (∀ o, h.own = some o → o = c) ∧ (h.own = some c → st ≠ .sh) ∧ (N1 ++ N2).filter isB = [] ∧ (N1 ++ Msg.grant c L st w :: N2).filter isB = [.grant c L st w] := by
    have S := I.si
    unfold SInv at S
    cases e : h.srv with
    | none =>
      rw [e] at S
      have := S.1
      simp [hx] at this
    | some s =>
      rw [e] at S
      obtain ⟨s1, S⟩ := S
      rcases S with ⟨a, b, d, f, o, ho, S⟩ | ⟨_, _, _, _, _, S⟩ | ⟨a, b, d, f, ho, S⟩
      · rcases S with ⟨⟨k, S⟩, g⟩ | ⟨w, d', S⟩
        · cases (B_one S hx).1
        · cases (B_one S hx).1
      · simp [hx] at S
      · rcases S with ⟨st, w, S, g⟩ | ⟨S, _⟩
        · obtain ⟨z1, z2⟩ := B_one S hx
          cases z1
          exact ⟨s, rfl, s1, a, b, d, f, rfl, ho, g, z2, S⟩
        · cases (B_one S hx).1
  have hB2 : (N1 ++ N2 ++ [Msg.recd c L]).filter isB = [.recd c L] := by
    rw [List.filter_append, hB]; rfl
  have hcnt := fun p => cnt_mid p (N1 := N1) (N2 := N2) (x := .grant c L st w) (ys := [.recd c L])
  have hrc : (E c).r = true := by
    have := I.k1 c
    rw [hB1] at this
    unfold pend at this
    rw [hs] at this
    simp [s6, recdOf] at this
    cases e : (E c).r with
    | true => rfl
    | false => rw [e] at this; simp at this
  have h3 := I.k2 c hrc
  show LInv n wl L (upd E c { E c with e1 := some (st, w), r := false }) h (N1 ++ N2 ++ [.recd c L])
  refine ⟨mid_all I.lin (one_all rfl), mid_all I.cor (one_all hc), I.nd, I.bo, I.bs, I.an, I.ab, fun i => ?_, fun i hi => ?_, fun i => ?_, fun i hi => ?_, fun a => ?_, fun i hi => ?_, ?_, fun i st' w' e => ?_, fun i w' d' e => ?_, I.wh, mid_all I.wm (one_all trivial)⟩
  · have h1 := I.k1 i
    have h2 := hcnt (getOf i)
    rw [hB1] at h1
    rw [hB2]
    unfold pend at h1 ⊢
    rw [hs] at h1 ⊢
    simp [getOf] at h2
    by_cases e : i = c
    · subst e
      rw [hrc] at h1
      simp [s6, recdOf] at h1 ⊢
      simp [getOf] at h1 ⊢
      exact h1
    · rw [upd_ne e, ← h1]
      simp [s6, Ne.symm e, getOf, show ¬ c = i from fun z => e z.symm]
  · by_cases e : i = c
    · subst e; rw [upd_same] at hi; cases hi
    · rw [upd_ne e] at hi ⊢; exact I.k2 i hi
  · have h1 := I.k3 i
    have hr' : (upd E c { E c with e1 := some (st, w), r := false } i).e3 = (E i).e3 := by
      by_cases e : i = c
      · subst e; rw [upd_same]
      · rw [upd_ne e]
    rw [hr', ← h1]
    simp [givOf, cnfOf]
  · by_cases e : i = c
    · subst e; rw [upd_same]; exact h3
    · rw [upd_ne e] at hi ⊢; exact I.k4 i hi
  · have h1 := I.ai a
    rw [← h1]
    simp [invOf]
  · refine I.cf i ?_
    simp [cnfOf] at hi ⊢
    exact hi
  · rw [hB2]
    unfold SInv
    rw [hs]
    refine ⟨s1, .inr (.inr ⟨s2, s3, s4, s5, fun o z => by rw [s6]; exact ho o z, .inr ⟨by rw [s6], fun z => ?_⟩⟩)⟩
    rw [s6] at z ⊢
    rw [upd_same]
    exact .inl ⟨st, w, rfl, hst z⟩
  · by_cases e2 : i = c
    · subst e2
      rw [upd_same] at e
      cases e
      exact I.wm (.grant i L st w) (by simp)
    · rw [upd_ne e2] at e; exact I.w1 i st' w' e
  · by_cases e2 : i = c
    · subst e2; rw [upd_same] at e; exact I.w3 i w' d' e
    · rw [upd_ne e2] at e; exact I.w3 i w' d' e
theorem LInv_conf {c : Nat} (I : LInv n wl L E h (N1 ++ .conf c L :: N2)) : LInv n wl L (upd E c (lrecv (E c) (.conf c L)).1) h (N1 ++ N2 ++ (lrecv (E c) (.conf c L)).2) := by
  have hc : c < n := I.cor (.conf c L) (by simp)
  have hB : (N1 ++ N2 ++ []).filter isB = (N1 ++ Msg.conf c L :: N2).filter isB := by simp [isB]
  have hcnt := fun p => cnt_mid p (N1 := N1) (N2 := N2) (x := .conf c L) (ys := [])
  have hown : h.own ≠ some c := I.cf c (by simp [cnfOf]; omega)
  show LInv n wl L (upd E c { E c with e3 := none }) h (N1 ++ N2 ++ [])
  refine ⟨mid_all I.lin no_all, mid_all I.cor no_all, I.nd, I.bo, I.bs, I.an, I.ab, fun i => ?_, fun i hi => ?_, fun i => ?_, fun i hi => ?_, fun a => ?_, fun i hi => ?_, ?_, fun i st' w' e => ?_, fun i w' d' e => ?_, I.wh, mid_all I.wm no_all⟩
  · have h1 := I.k1 i
    rw [hB]
    have hr' : (upd E c { E c with e3 := none } i).r = (E i).r := by
      by_cases e : i = c
      · subst e; rw [upd_same]
      · rw [upd_ne e]
    rw [hr', ← h1]
    simp [getOf]
  · by_cases e : i = c
    · subst e; rw [upd_same]
    · rw [upd_ne e] at hi ⊢; exact I.k2 i hi
  · have h1 := I.k3 i
    have h2 := hcnt (givOf i)
    have h3 := hcnt (cnfOf i)
    by_cases e : i = c
    · subst e
      rw [upd_same]
      simp only [givOf, cnfOf, beq_self_eq_true, Bool.toNat_true, Bool.toNat_false, List.countP_nil, Nat.add_zero] at h2 h3
      have : ((E i).e3.isSome).toNat ≤ 1 := by cases (E i).e3.isSome <;> simp
      simp only [Option.isSome_none, Bool.toNat_false]
      omega
    · rw [upd_ne e]
      simp only [givOf, cnfOf, show (c == i) = false from beq_eq_false_iff_ne.mpr (Ne.symm e), Bool.toNat_false, List.countP_nil, Nat.add_zero] at h2 h3
      rw [h2, h3]
      exact h1
  · by_cases e : i = c
    · subst e; rw [upd_same]
    · rw [upd_ne e] at hi ⊢; exact I.k4 i hi
  · have h1 := I.ai a
    rw [← h1]
    simp [invOf]
  · refine I.cf i ?_
    have h3 := hcnt (cnfOf i)
    simp only [List.countP_nil, Nat.add_zero] at h3
    omega
  · rw [hB]
    refine I.si.congr fun o ho hh => ?_
    by_cases e : o = c
    · subst e; exact absurd ho hown
    · rw [upd_ne e]; exact hh
  · by_cases e2 : i = c
    · subst e2; rw [upd_same] at e; exact I.w1 i st' w' e
    · rw [upd_ne e2] at e; exact I.w1 i st' w' e
  · by_cases e2 : i = c
    · subst e2; rw [upd_same] at e; cases e
    · rw [upd_ne e2] at e; exact I.w3 i w' d' e
end Ev

set_option Elab.async false
set_option linter.all false
set_option maxRecDepth 100000
set_option maxHeartbeats 400000
/-! In2: the directory protocol of one line: deliveries to the home. -/
namespace Ev
open PySem
variable {n wl L : Nat} {E : Nat → LE} {h : Home} {N N1 N2 : List Msg}
/-- before the grant rule -/
abbrev LPre (n wl L : Nat) (E : Nat → LE) (h : Home) (N : List Msg) (s : Srv) : Prop :=
  LInvG (h.srv = some s ∧ s.core < n ∧ s.rcl = false ∧ s.gr = false ∧ s.ws.isSome = true ∧ h.own = none ∧ N.filter isB = []) n wl L E h N
theorem LPre_grant {s : Srv} {cfg : Cfg} {v : Option Srv} (I : LPre n wl L E h N s) : LInv n wl L E (grantIf cfg ⟨h.own, h.shs, v⟩ L s).1 (N ++ (grantIf cfg ⟨h.own, h.shs, v⟩ L s).2) := by
  obtain ⟨hs, hc, hr, hg, hw, ho, hB⟩ := I.si
  obtain ⟨w, hw⟩ := Option.isSome_iff_exists.mp hw
  have haw : awtOf h = s.awt := by unfold awtOf; rw [hs]
  by_cases ha : s.awt = []
  case neg =>
    have e : grantIf cfg ⟨h.own, h.shs, v⟩ L s = (⟨h.own, h.shs, some s⟩, []) := by
      unfold grantIf
      rw [hw]
      dsimp only
      have : s.awt.isEmpty = false := by cases z : s.awt <;> simp_all
      rw [hg, hr, this]
      rfl
    rw [e, List.append_nil]
    have eh : (⟨h.own, h.shs, some s⟩ : Home) = h := by rw [← hs]
    rw [eh]
    refine ⟨I.lin, I.cor, I.nd, I.bo, I.bs, I.an, I.ab, I.k1, I.k2, I.k3, I.k4, I.ai, I.cf, ?_, I.w1, I.w3, I.wh, I.wm⟩
    unfold SInv
    rw [hs]
    exact ⟨hc, .inr (.inl ⟨hr, hg, by rw [hw]; rfl, ha, ho, hB⟩)⟩
  case pos =>
    obtain ⟨own', shs', st, e, h1, h2, h3⟩ : ∃ own' shs' st, grantIf cfg ⟨h.own, h.shs, v⟩ L s = (⟨own', shs', some { s with gr := true }⟩, [.grant s.core L st w]) ∧ (own' = some s.core ∧ st ≠ .sh ∨ own' = none) ∧ shs'.Nodup ∧ ∀ a ∈ shs', a < n := by
      unfold grantIf
      rw [hw]
      dsimp only
      rw [hg, hr, ha, ho]
      dsimp only [List.isEmpty_nil, Bool.not_true, Bool.or_self]
      by_cases c1 : s.excl = true
      · exact ⟨_, _, _, if_pos c1, .inl ⟨rfl, by decide⟩, List.nodup_nil, fun a h => by cases h⟩
      · rw [if_neg (by decide), if_neg c1]
        by_cases c2 : (cfg.excl && h.shs.isEmpty) = true
        · exact ⟨_, _, _, if_pos c2, .inl ⟨rfl, by decide⟩, I.nd, I.bs⟩
        · rw [if_neg c2]
          by_cases c3 : h.shs.contains s.core = true
          · exact ⟨_, _, _, if_pos c3, .inr rfl, I.nd, I.bs⟩
          · refine ⟨_, _, _, if_neg c3, .inr rfl, ?_, fun a z => ?_⟩
            · rw [List.nodup_append]
              refine ⟨I.nd, by simp, fun a ha b hb => ?_⟩
              rw [List.mem_singleton.mp hb]
              intro z
              subst z
              exact c3 (by simpa using ha)
            · rcases List.mem_append.mp z with z | z
              · exact I.bs a z
              · rw [List.mem_singleton.mp z]; exact hc
    rw [e]
    have hrc : (E s.core).r = true := by
      have := I.k1 s.core
      rw [hB] at this
      unfold pend at this
      rw [hs] at this
      simp at this
      cases z : (E s.core).r with
      | true => rfl
      | false => rw [z] at this; simp at this
    have hcn : N.countP (cnfOf s.core) = 0 := by
      have := I.k3 s.core
      rw [I.k2 _ hrc] at this
      simp only [Option.isSome_none, Bool.toNat_false] at this
      omega
    have hB2 : (N ++ [Msg.grant s.core L st w]).filter isB = [.grant s.core L st w] := by
      rw [List.filter_append, hB]; rfl
    have hall : ∀ {P : Msg → Prop}, (∀ y ∈ N, P y) → P (.grant s.core L st w) → ∀ y ∈ N ++ [Msg.grant s.core L st w], P y := fun h1 h2 y hy => by
      rcases List.mem_append.mp hy with hy | hy
      · exact h1 y hy
      · rw [List.mem_singleton.mp hy]; exact h2
    refine ⟨hall I.lin rfl, hall I.cor hc, h2, fun o z => ?_, h3, ?_, ?_, fun i => ?_, I.k2, fun i => ?_, I.k4, fun a => ?_, fun i hi => ?_, ?_, I.w1, I.w3, fun s' w' e1 e2 => ?_, hall I.wm ?_⟩
    · dsimp only at z
      rcases h1 with ⟨h1, _⟩ | h1
      · rw [h1] at z; cases z; exact hc
      · rw [h1] at z; cases z
    · show s.awt.Nodup
      rw [ha]; exact List.nodup_nil
    · show ∀ a ∈ s.awt, a < n
      rw [ha]; intro a z; cases z
    · have := I.k1 i
      rw [hB] at this
      unfold pend at this
      rw [hs] at this
      rw [hB2, ← this]
      unfold pend
      simp [getOf, recdOf]
    · have := I.k3 i
      rw [← this]
      simp [givOf, cnfOf]
    · have := I.ai a
      rw [haw] at this
      show _ = if a ∈ s.awt then 1 else 0
      rw [← this]
      simp [invOf]
    · intro z
      have hi : 0 < N.countP (cnfOf i) := by
        rw [List.countP_append] at hi
        exact hi
      rcases h1 with ⟨h1, _⟩ | h1
      · rw [h1] at z
        cases z
        omega
      · rw [h1] at z; cases z
    · rw [hB2]
      unfold SInv
      refine ⟨hc, .inr (.inr ⟨hr, rfl, by show s.ws.isSome = true; rw [hw]; rfl, ha, fun o z => ?_, .inl ⟨st, w, rfl, fun z => ?_⟩⟩)⟩
      · dsimp only at z
        rcases h1 with ⟨h1, _⟩ | h1
        · rw [h1] at z; cases z; rfl
        · rw [h1] at z; cases z
      · dsimp only at z
        rcases h1 with ⟨_, h1⟩ | h1
        · exact h1
        · rw [h1] at z; cases z
    · cases e1
      exact I.wh s w' hs e2
    · exact I.wh s w hs hw
theorem LInv_give {c : Nat} {w ws : List Nat} {d : Bool} {cfg : Cfg} (I : LInv n wl L E h (N1 ++ .give c L w d :: N2)) (hcr : canRecv h (.give c L w d) = true) :
    LInv n wl L E (homeRecv cfg h ws (.give c L w d)).1 (N1 ++ N2 ++ (homeRecv cfg h ws (.give c L w d)).2.2) := by
  have hs : h.srv = none := by
    cases e : h.srv with
    | none => rfl
    | some s => unfold canRecv at hcr; rw [e] at hcr; cases hcr
  have hc : c < n := I.cor (.give c L w d) (by simp)
  have S := I.si
  unfold SInv at S
  rw [hs] at S
  obtain ⟨S1, S2⟩ := S
  have hB : (N1 ++ N2 ++ [Msg.conf c L]).filter isB = [] := by
    rw [List.filter_append, ← B_no (x := .give c L w d) rfl, S1]; rfl
  have hcnt := fun p => cnt_mid1 p (N1 := N1) (N2 := N2) (x := .give c L w d) (y := .conf c L)
  show LInv n wl L E ⟨if h.own = some c then none else h.own, h.shs, none⟩ (N1 ++ N2 ++ [.conf c L])
  have hsub : ∀ o, (if h.own = some c then none else h.own) = some o → h.own = some o ∧ o ≠ c := by
    intro o z
    split at z
    · cases z
    · rename_i z2
      exact ⟨z, fun z3 => z2 (z3 ▸ z)⟩
  refine ⟨mid_all I.lin (one_all rfl), mid_all I.cor (one_all hc), I.nd, fun o z => I.bo o (hsub o z).1, I.bs, List.nodup_nil, fun a z => absurd z (by simp [awtOf]), fun i => ?_, I.k2, fun i => ?_, I.k4, fun a => ?_, fun i hi z => ?_, ?_, I.w1, I.w3, fun s w' z => (nomatch z), mid_all I.wm (one_all trivial)⟩
  · have := I.k1 i
    unfold pend at this ⊢
    rw [hs] at this
    rw [← this]
    simp [getOf]
  · have h1 := I.k3 i
    have h2 := hcnt (givOf i)
    have h3 := hcnt (cnfOf i)
    simp only [givOf, cnfOf] at h2 h3
    rw [← h1]
    simp only [Bool.toNat_false] at h2 h3
    omega
  · have := I.ai a
    have haw : awtOf h = [] := by unfold awtOf; rw [hs]
    rw [haw] at this
    show _ = if a ∈ ([] : List Nat) then 1 else 0
    rw [← this]
    simp [invOf]
  · obtain ⟨z1, z2⟩ := hsub i z
    refine I.cf i ?_ z1
    have h3 := hcnt (cnfOf i)
    simp only [cnfOf, show (c == i) = false from beq_eq_false_iff_ne.mpr (Ne.symm z2), Bool.toNat_false] at h3
    omega
  · rw [hB]
    exact ⟨rfl, fun o z => S2 o (hsub o z).1⟩
theorem LInv_recd {c : Nat} {ws : List Nat} {cfg : Cfg} (I : LInv n wl L E h (N1 ++ .recd c L :: N2)) :
    LInv n wl L E (homeRecv cfg h ws (.recd c L)).1 (N1 ++ N2 ++ (homeRecv cfg h ws (.recd c L)).2.2) := by
  have hx : isB (.recd c L) = true := rfl
  obtain ⟨s, hs, s1, s5, s6, ho, hH, hB, hB1⟩ : ∃ s, h.srv = some s ∧ s.core < n ∧ s.awt = [] ∧ s.core = c ∧ (∀ o, h.own = some o → o = c) ∧ (h.own = some c → Has (E c)) ∧ (N1 ++ N2).filter isB = [] ∧ (N1 ++ Msg.recd c L :: N2).filter isB = [.recd c L] := by
    have S := I.si
    unfold SInv at S
    cases e : h.srv with
    | none =>
      rw [e] at S
      have := S.1
      simp [hx] at this
    | some s =>
      rw [e] at S
      obtain ⟨s1, S⟩ := S
      rcases S with ⟨a, b, d, f, o, ho, S⟩ | ⟨_, _, _, _, _, S⟩ | ⟨a, b, d, f, ho, S⟩
      · rcases S with ⟨⟨k, S⟩, g⟩ | ⟨w, d', S⟩
        · cases (B_one S hx).1
        · cases (B_one S hx).1
      · simp [hx] at S
      · rcases S with ⟨st, w, S, g⟩ | ⟨S, g⟩
        · cases (B_one S hx).1
        · obtain ⟨z1, z2⟩ := B_one S hx
          cases z1
          exact ⟨s, rfl, s1, f, rfl, ho, g, z2, S⟩
  show LInv n wl L E ⟨h.own, h.shs, none⟩ (N1 ++ N2 ++ [])
  rw [List.append_nil]
  have hm : ∀ {P : Msg → Prop}, (∀ y ∈ N1 ++ Msg.recd c L :: N2, P y) → ∀ y ∈ N1 ++ N2, P y := fun h1 y hy => h1 y (by
    rcases List.mem_append.mp hy with hy | hy
    · exact List.mem_append_left _ hy
    · exact List.mem_append_right _ (List.mem_cons_of_mem _ hy))
  refine ⟨hm I.lin, hm I.cor, I.nd, I.bo, I.bs, List.nodup_nil, fun a z => absurd z (by simp [awtOf]), fun i => ?_, I.k2, fun i => ?_, I.k4, fun a => ?_, fun i hi z => ?_, ?_, I.w1, I.w3, fun s w' z => (nomatch z), hm I.wm⟩
  · have := I.k1 i
    rw [hB1] at this
    unfold pend at this ⊢
    rw [hs] at this
    rw [← this]
    by_cases e : i = c
    · subst e; simp [getOf, recdOf]
    · simp [getOf, recdOf, s6, Ne.symm e, show ¬ c = i from fun z => e z.symm]
  · rw [← I.k3 i]
    simp [givOf, cnfOf]
  · have := I.ai a
    have haw : awtOf h = [] := by unfold awtOf; rw [hs]; exact s5
    rw [haw] at this
    show _ = if a ∈ ([] : List Nat) then 1 else 0
    rw [← this]
    simp [invOf]
  · refine I.cf i ?_ z
    simp [cnfOf] at hi ⊢
    exact hi
  · rw [hB]
    exact ⟨rfl, fun o z => by
      have := ho o z
      subst this
      exact hH z⟩

theorem mid_sub {x : Msg} {P : Msg → Prop} (h1 : ∀ y ∈ N1 ++ x :: N2, P y) : ∀ y ∈ N1 ++ N2, P y := fun y hy => h1 y (by
    rcases List.mem_append.mp hy with hy | hy
    · exact List.mem_append_left _ hy
    · exact List.mem_append_right _ (List.mem_cons_of_mem _ hy))
theorem cnt_mid0 (p : Msg → Bool) {x : Msg} : (N1 ++ N2).countP p + (p x).toNat = (N1 ++ x :: N2).countP p := by
  have := cnt_mid p (N1 := N1) (N2 := N2) (x := x) (ys := [])
  rw [List.append_nil] at this
  exact this
theorem LInv_invald {c : Nat} {ws : List Nat} {cfg : Cfg} (I : LInv n wl L E h (N1 ++ .invald c L :: N2)) :
    h.srv.isSome = true ∧ LInv n wl L E (homeRecv cfg h ws (.invald c L)).1 (N1 ++ N2 ++ (homeRecv cfg h ws (.invald c L)).2.2) := by
  have hx : isB (.invald c L) = false := rfl
  have hcnt := fun p => cnt_mid0 p (N1 := N1) (N2 := N2) (x := .invald c L)
  have hm : c ∈ awtOf h := by
    have ha := I.ai c
    have h1 := hcnt (invOf c)
    simp only [invOf, beq_self_eq_true, Bool.toNat_true] at h1
    apply Classical.byContradiction
    intro hn
    rw [if_neg hn] at ha
    omega
  obtain ⟨s, hs, s1, s2, s3, s4, ho, hB⟩ : ∃ s, h.srv = some s ∧ s.core < n ∧ s.rcl = false ∧ s.gr = false ∧ s.ws.isSome = true ∧ h.own = none ∧ (N1 ++ Msg.invald c L :: N2).filter isB = [] := by
    have S := I.si
    unfold SInv at S
    unfold awtOf at hm
    cases e : h.srv with
    | none => rw [e] at hm; cases hm
    | some s =>
      rw [e] at hm S
      simp only at hm
      rcases S.2 with ⟨_, _, _, z, _⟩ | ⟨a, b, d, _, f, g⟩ | ⟨_, _, _, z, _⟩
      · rw [z] at hm; cases hm
      · exact ⟨s, rfl, S.1, a, b, d, f, g⟩
      · rw [z] at hm; cases hm
  refine ⟨by rw [hs]; rfl, ?_⟩
  have haw : awtOf h = s.awt := by unfold awtOf; rw [hs]
  have hB0 : (N1 ++ N2).filter isB = [] := by rw [← B_no hx]; exact hB
  have e : homeRecv cfg h ws (.invald c L) = ((grantIf cfg ⟨h.own, h.shs.filter (· != c), none⟩ L { s with awt := s.awt.filter (· != c) }).1, ws, (grantIf cfg ⟨h.own, h.shs.filter (· != c), none⟩ L { s with awt := s.awt.filter (· != c) }).2) := by
    unfold homeRecv
    rw [hs]
    rfl
  rw [e]
  have P : LPre n wl L E ⟨h.own, h.shs.filter (· != c), some { s with awt := s.awt.filter (· != c) }⟩ (N1 ++ N2) { s with awt := s.awt.filter (· != c) } := by
    refine ⟨mid_sub I.lin, mid_sub I.cor, I.nd.filter _, I.bo, fun o ho => I.bs o ((List.mem_filter.mp ho).1), ?_, fun a ha => ?_, fun i => ?_, I.k2, fun i => ?_, I.k4, fun a => ?_, fun i hi => ?_, ⟨rfl, s1, s2, s3, s4, ho, hB0⟩, I.w1, I.w3, fun s' w' e1 e2 => ?_, mid_sub I.wm⟩
    · show (s.awt.filter (· != c)).Nodup
      have := I.an
      rw [haw] at this
      exact this.filter _
    · refine I.ab a ?_
      rw [haw]
      exact (List.mem_filter.mp ha).1
    · have := I.k1 i
      rw [hB] at this
      unfold pend at this ⊢
      rw [hs] at this
      have h1 := hcnt (getOf i)
      simp only [getOf, Bool.toNat_false, Nat.add_zero] at h1
      rw [hB0, h1]
      exact this
    · have h1 := hcnt (givOf i)
      have h2 := hcnt (cnfOf i)
      simp only [givOf, cnfOf, Bool.toNat_false, Nat.add_zero] at h1 h2
      rw [h1, h2]
      exact I.k3 i
    · have h1 := hcnt (invOf a)
      have h2 := I.ai a
      simp only [invOf] at h1
      show _ = if a ∈ s.awt.filter (· != c) then 1 else 0
      rw [haw] at h2
      by_cases e : a = c
      · subst e
        rw [haw] at hm
        rw [if_pos hm] at h2
        rw [if_neg (by simp)]
        simp only [beq_self_eq_true, Bool.toNat_true] at h1
        omega
      · have e2 : (c == a) = false := beq_eq_false_iff_ne.mpr (Ne.symm e)
        rw [e2] at h1
        have : (a ∈ s.awt.filter (· != c)) = (a ∈ s.awt) := by simp [e]
        rw [← h1] at h2
        simp only [Bool.toNat_false, Nat.add_zero] at h2
        rw [h2]
        simp [e]
    · refine I.cf i ?_
      have h2 := hcnt (cnfOf i)
      omega
    · cases e1
      exact I.wh s w' hs e2
  exact LPre_grant P
theorem LInv_retd {c : Nat} {w : Option (List Nat)} {d : Bool} {ws : List Nat} {cfg : Cfg} (I : LInv n wl L E h (N1 ++ .retd c L w d :: N2)) :
    (h.srv.isSome = true ∧ w.isSome = true) ∧ LInv n wl L E (homeRecv cfg h ws (.retd c L w d)).1 (N1 ++ N2 ++ (homeRecv cfg h ws (.retd c L w d)).2.2) := by
  have hx : isB (.retd c L w d) = true := rfl
  have hc : c < n := I.cor (.retd c L w d) (by simp)
  obtain ⟨s, w0, hs, hw, s1, s2, s3, s4, s5, ho, hB, hB1⟩ : ∃ s w0, h.srv = some s ∧ w = some w0 ∧ s.core < n ∧ s.rcl = true ∧ s.gr = false ∧ s.ws = none ∧ s.awt = [] ∧ h.own = some c ∧ (N1 ++ N2).filter isB = [] ∧ (N1 ++ Msg.retd c L w d :: N2).filter isB = [.retd c L w d] := by
    have S := I.si
    unfold SInv at S
    cases e : h.srv with
    | none =>
      rw [e] at S
      have := S.1
      simp [hx] at this
    | some s =>
      rw [e] at S
      obtain ⟨s1, S⟩ := S
      rcases S with ⟨a, b, d, f, o, ho, S⟩ | ⟨_, _, _, _, _, S⟩ | ⟨a, b, d, f, ho, S⟩
      · rcases S with ⟨⟨k, S⟩, g⟩ | ⟨w, d', S⟩
        · cases (B_one S hx).1
        · obtain ⟨z1, z2⟩ := B_one S hx
          cases z1
          exact ⟨s, w, rfl, rfl, s1, a, b, d, f, ho, z2, S⟩
      · simp [hx] at S
      · rcases S with ⟨st, w, S, g⟩ | ⟨S, g⟩
        · cases (B_one S hx).1
        · cases (B_one S hx).1
  subst hw
  refine ⟨⟨by rw [hs]; rfl, rfl⟩, ?_⟩
  have haw : awtOf h = [] := by unfold awtOf; rw [hs]; exact s5
  have hcnt := fun p => cnt_mid0 p (N1 := N1) (N2 := N2) (x := .retd c L (some w0) d)
  have e : homeRecv cfg h ws (.retd c L (some w0) d) = ((grantIf cfg ⟨none, if s.excl then [] else [c], none⟩ L ⟨s.core, s.excl, s.awt, false, some w0, s.gr⟩).1, if d then w0 else ws, (grantIf cfg ⟨none, if s.excl then [] else [c], none⟩ L ⟨s.core, s.excl, s.awt, false, some w0, s.gr⟩).2) := by
    unfold homeRecv
    rw [hs]
    rfl
  rw [e]
  have P : LPre n wl L E ⟨none, if s.excl then [] else [c], some ⟨s.core, s.excl, s.awt, false, some w0, s.gr⟩⟩ (N1 ++ N2) ⟨s.core, s.excl, s.awt, false, some w0, s.gr⟩ := by
    refine ⟨mid_sub I.lin, mid_sub I.cor, ?_, fun o z => (nomatch z), fun o ho => ?_, ?_, ?_, fun i => ?_, I.k2, fun i => ?_, I.k4, fun a => ?_, fun i hi z => (nomatch z), ⟨rfl, s1, rfl, s3, rfl, rfl, hB⟩, I.w1, I.w3, fun s' w' e1 e2 => ?_, mid_sub I.wm⟩
    · show (if s.excl then [] else [c] : List Nat).Nodup
      split <;> simp
    · have ho : o ∈ (if s.excl then [] else [c] : List Nat) := ho
      split at ho
      · cases ho
      · rw [List.mem_singleton.mp ho]; exact hc
    · show s.awt.Nodup
      rw [s5]; exact List.nodup_nil
    · show ∀ a ∈ s.awt, a < n
      rw [s5]; intro a z; cases z
    · have := I.k1 i
      rw [hB1] at this
      unfold pend at this ⊢
      rw [hs] at this
      have h1 := hcnt (getOf i)
      simp only [getOf, Bool.toNat_false, Nat.add_zero] at h1
      rw [hB, h1]
      exact this
    · have h1 := hcnt (givOf i)
      have h2 := hcnt (cnfOf i)
      simp only [givOf, cnfOf, Bool.toNat_false, Nat.add_zero] at h1 h2
      rw [h1, h2]
      exact I.k3 i
    · have h1 := hcnt (invOf a)
      simp only [invOf, Bool.toNat_false, Nat.add_zero] at h1
      show _ = if a ∈ s.awt then 1 else 0
      rw [h1, I.ai a, haw, s5]
    · cases e1
      cases e2
      exact I.wm (.retd c L (some w0) d) (by simp) w0 rfl
  exact LPre_grant P

theorem inv_cnt {L a : Nat} : ∀ {aw : List Nat}, aw.Nodup → (aw.map fun s => Msg.inval s L).countP (invOf a) = if a ∈ aw then 1 else 0
  | [], _ => rfl
  | b :: aw, hn => by
    obtain ⟨h1, h2⟩ := List.nodup_cons.mp hn
    have hz : (if invOf a (.inval b L) = true then 1 else 0) = if b = a then 1 else 0 := by simp [invOf]
    rw [List.map_cons, List.countP_cons, inv_cnt h2, hz]
    by_cases e : b = a
    · subst e; simp [h1]
    · simp [e, Ne.symm e]
theorem LInv_get {c : Nat} {x : Msg} {ex : Bool} {ws : List Nat} {cfg : Cfg} (hxx : (ex = true ∧ x = .getm c L) ∨ (ex = false ∧ x = .gets c L)) (I : LInv n wl L E h (N1 ++ x :: N2)) (hcr : canRecv h x = true) (hwl : ws.length = wl) :
    LInv n wl L E (homeRecv cfg h ws x).1 (N1 ++ N2 ++ (homeRecv cfg h ws x).2.2) := by
  obtain ⟨x1, x2, x3, x4, x5, x6, x7⟩ : isB x = false ∧ x.core = c ∧ (∀ i, getOf i x = (c == i)) ∧ (∀ i, givOf i x = false) ∧ (∀ i, cnfOf i x = false) ∧ (∀ i, invOf i x = false) ∧ waits x = true := by
    rcases hxx with ⟨_, rfl⟩ | ⟨_, rfl⟩ <;> exact ⟨rfl, rfl, fun _ => rfl, fun _ => rfl, fun _ => rfl, fun _ => rfl, rfl⟩
  have hs : h.srv = none := by
    cases e : h.srv with
    | none => rfl
    | some s =>
      unfold canRecv at hcr
      rw [e, x7] at hcr
      cases hcr
  have hc : c < n := x2 ▸ I.cor x (by simp)
  have S := I.si
  unfold SInv at S
  rw [hs] at S
  obtain ⟨hB, hO⟩ := S
  have hB0 : (N1 ++ N2).filter isB = [] := by rw [← B_no x1]; exact hB
  have haw : awtOf h = [] := by unfold awtOf; rw [hs]
  have hcnt := fun p => cnt_mid0 p (N1 := N1) (N2 := N2) (x := x)
  have e : homeRecv cfg h ws x = ((grantIf cfg ⟨(begun h ws c L ex).1.1, (begun h ws c L ex).1.2.1, none⟩ L (begun h ws c L ex).1.2.2).1, ws, (begun h ws c L ex).2 ++ (grantIf cfg ⟨(begun h ws c L ex).1.1, (begun h ws c L ex).1.2.1, none⟩ L (begun h ws c L ex).1.2.2).2) := by
    rcases hxx with ⟨rfl, rfl⟩ | ⟨rfl, rfl⟩ <;> rfl
  rw [e]
  have k1' : ∀ i, (N1 ++ N2).countP (getOf i) + (if c = i then 1 else 0) = (E i).r.toNat := fun i => by
    have h1 := I.k1 i
    have h2 := hcnt (getOf i)
    unfold pend at h1
    rw [hs] at h1
    rw [x3] at h2
    rw [← h1, ← h2]
    by_cases z : c = i <;> simp [z]
  cases ho : h.own with
  | some o =>
    have hH := hO o ho
    have e2 : begun h ws c L ex = ((some o, h.shs, ⟨c, ex, [], true, none, false⟩), [.recall o L (!ex)]) := by unfold begun; rw [ho]
    have e3 : grantIf cfg ⟨some o, h.shs, none⟩ L ⟨c, ex, [], true, none, false⟩ = (⟨some o, h.shs, some ⟨c, ex, [], true, none, false⟩⟩, []) := rfl
    rw [e2]
    dsimp only
    rw [e3, List.append_nil]
    have hcnt := fun p => cnt_mid1 p (N1 := N1) (N2 := N2) (x := x) (y := .recall o L (!ex))
    have hB2 : (N1 ++ N2 ++ [Msg.recall o L (!ex)]).filter isB = [.recall o L (!ex)] := by
      rw [List.filter_append, hB0]; rfl
    refine ⟨mid_all I.lin (one_all rfl), mid_all I.cor (one_all (I.bo o ho)), I.nd, fun o' z => I.bo o' (by rw [ho]; exact z), I.bs, List.nodup_nil, fun a z => absurd z (by simp [awtOf]), fun i => ?_, I.k2, fun i => ?_, I.k4, fun a => ?_, fun i hi z => ?_, ?_, I.w1, I.w3, fun s' w' e1 e2 => ?_, mid_all I.wm (one_all trivial)⟩
    · rw [hB2, ← k1' i, List.countP_append]
      unfold pend
      dsimp only
      have : (List.any [Msg.recall o L (!ex)] (recdOf i)) = false := rfl
      rw [this]
      by_cases z : c = i <;> simp [z, getOf]
    · have h1 := hcnt (givOf i)
      have h2 := hcnt (cnfOf i)
      rw [x4, show givOf i (.recall o L (!ex)) = false from rfl] at h1
      rw [x5, show cnfOf i (.recall o L (!ex)) = false from rfl] at h2
      simp only [Bool.toNat_false, Nat.add_zero] at h1 h2
      rw [h1, h2]
      exact I.k3 i
    · have h1 := hcnt (invOf a)
      rw [x6, show invOf a (.recall o L (!ex)) = false from rfl] at h1
      simp only [Bool.toNat_false, Nat.add_zero] at h1
      show _ = if a ∈ ([] : List Nat) then 1 else 0
      rw [h1, I.ai a, haw]
    · refine I.cf i ?_ (by rw [ho]; exact z)
      have h2 := hcnt (cnfOf i)
      rw [x5, show cnfOf i (.recall o L (!ex)) = false from rfl] at h2
      simp only [Bool.toNat_false, Nat.add_zero] at h2
      rw [← h2]
      exact hi
    · rw [hB2]
      exact ⟨hc, .inl ⟨rfl, rfl, rfl, rfl, o, rfl, .inl ⟨⟨_, rfl⟩, hH⟩⟩⟩
    · cases e1
      cases e2
  | none =>
    obtain ⟨aw, ha⟩ : ∃ aw, aw = if ex then h.shs.filter (· != c) else [] := ⟨_, rfl⟩
    have e2 : begun h ws c L ex = ((none, h.shs, ⟨c, ex, aw, false, some ws, false⟩), aw.map fun s => .inval s L) := by unfold begun; rw [ho, ha]
    rw [e2]
    dsimp only
    have han : aw.Nodup := by
      rw [ha]
      split
      · exact I.nd.filter _
      · exact List.nodup_nil
    have hab : ∀ a ∈ aw, a < n := by
      rw [ha]
      split
      · exact fun a z => I.bs a (List.mem_filter.mp z).1
      · exact fun a z => (nomatch z)
    have hcnt := fun p => cnt_mid p (N1 := N1) (N2 := N2) (x := x) (ys := aw.map fun s => .inval s L)
    have hz : ∀ (p : Msg → Bool), (∀ s, p (.inval s L) = false) → (aw.map fun s => Msg.inval s L).countP p = 0 := fun p hp => by
      rw [List.countP_eq_zero]
      intro y hy
      obtain ⟨s, _, rfl⟩ := List.mem_map.mp hy
      rw [hp]
      exact Bool.false_ne_true
    have hBm : (N1 ++ N2 ++ aw.map fun s => Msg.inval s L).filter isB = [] := by
      rw [List.filter_append, hB0, List.nil_append, List.filter_eq_nil_iff]
      intro y hy
      obtain ⟨s, _, rfl⟩ := List.mem_map.mp hy
      exact Bool.false_ne_true
    have P : LPre n wl L E ⟨none, h.shs, some ⟨c, ex, aw, false, some ws, false⟩⟩ (N1 ++ N2 ++ aw.map fun s => .inval s L) ⟨c, ex, aw, false, some ws, false⟩ := by
      refine ⟨mid_all I.lin (fun y hy => ?_), mid_all I.cor (fun y hy => ?_), I.nd, fun o z => (nomatch z), I.bs, han, hab, fun i => ?_, I.k2, fun i => ?_, I.k4, fun a => ?_, fun i hi z => (nomatch z), ⟨rfl, hc, rfl, rfl, rfl, rfl, hBm⟩, I.w1, I.w3, fun s' w' e1 e2 => ?_, mid_all I.wm (fun y hy => ?_)⟩
      · obtain ⟨s, _, rfl⟩ := List.mem_map.mp hy; rfl
      · obtain ⟨s, z, rfl⟩ := List.mem_map.mp hy; exact hab s z
      · rw [hBm, ← k1' i, List.countP_append, hz _ (fun _ => rfl)]
        unfold pend
        simp
      · have h1 := hcnt (givOf i)
        have h2 := hcnt (cnfOf i)
        rw [hz _ (fun _ => rfl), x4] at h1
        rw [hz _ (fun _ => rfl), x5] at h2
        simp only [Bool.toNat_false, Nat.add_zero] at h1 h2
        rw [h1, h2]
        exact I.k3 i
      · have h1 := hcnt (invOf a)
        rw [inv_cnt han, x6, I.ai a, haw] at h1
        show _ = if a ∈ aw then 1 else 0
        simp only [Bool.toNat_false, Nat.add_zero] at h1
        rw [h1]
        simp
      · cases e1
        cases e2
        exact hwl
      · obtain ⟨s, _, rfl⟩ := List.mem_map.mp hy; trivial
    have := LPre_grant (cfg := cfg) (v := none) P
    rw [List.append_assoc] at this
    exact this
end Ev

set_option Elab.async false
set_option linter.all false
set_option maxRecDepth 100000
set_option maxHeartbeats 400000
/-! In3: the directory protocol, all lines. -/
namespace Ev
open PySem
section
variable {α : Type} {key : α → Nat} {l l' : Nat} {xs : List α}
theorem find_del : (xs.filter fun x => key x != l).find? (fun x => key x == l') = if l = l' then none else xs.find? fun x => key x == l' := by
  induction xs with
  | nil => split <;> rfl
  | cons x xs ih =>
    by_cases h : key x = l
    · rw [List.filter_cons_of_neg (by simp [h]), ih]
      by_cases e : l = l'
      · rw [if_pos e, if_pos e]
      · rw [if_neg e, if_neg e, List.find?_cons_of_neg (by simp [h, e])]
    · rw [List.filter_cons_of_pos (by simp [h])]
      by_cases e2 : key x = l'
      · rw [List.find?_cons_of_pos (by simp [e2]), if_neg (by intro z; exact h (e2.trans z.symm)), List.find?_cons_of_pos (by simp [e2])]
      · rw [List.find?_cons_of_neg (by simp [e2]), ih]
        by_cases e : l = l'
        · rw [if_pos e, if_pos e]
        · rw [if_neg e, if_neg e, List.find?_cons_of_neg (by simp [e2])]
theorem find_rep {nw : α} (hn : key nw = l) : (xs.map fun x => if key x = l then nw else x).find? (fun x => key x == l') = if l = l' then (xs.find? fun x => key x == l).map fun _ => nw else xs.find? fun x => key x == l' := by
  induction xs with
  | nil => split <;> rfl
  | cons x xs ih =>
    rw [List.map_cons]
    by_cases h : key x = l
    · rw [if_pos h]
      by_cases e : l = l'
      · subst e
        rw [if_pos rfl, List.find?_cons_of_pos (by simp [hn]), List.find?_cons_of_pos (by simp [h])]
        rfl
      · rw [List.find?_cons_of_neg (by simp [hn, e]), ih, if_neg e, if_neg e, List.find?_cons_of_neg (by simp [h, e])]
    · rw [if_neg h]
      by_cases e : l = l'
      · subst e
        rw [List.find?_cons_of_neg (by simp [h]), ih, if_pos rfl, if_pos rfl, List.find?_cons_of_neg (by simp [h])]
      · rw [if_neg e] at ih ⊢
        by_cases e2 : key x = l'
        · rw [List.find?_cons_of_pos (by simp [e2]), List.find?_cons_of_pos (by simp [e2])]
        · rw [List.find?_cons_of_neg (by simp [e2]), List.find?_cons_of_neg (by simp [e2]), ih]
theorem find_app {nw : α} (hn : key nw = l) : (xs ++ [nw]).find? (fun x => key x == l') = (xs.find? fun x => key x == l').or (if l = l' then some nw else none) := by
  rw [List.find?_append]
  congr 1
  by_cases e : l = l'
  · rw [if_pos e, List.find?_cons_of_pos (by simp [hn, e])]
  · rw [if_neg e, List.find?_cons_of_neg (by simp [hn, e])]
    rfl
end
/-- what a cache knows of a line -/
def leOf (c : Cache) (L : Nat) : LE := ⟨(ent1 c L).map fun e => (e.st, e.ws), (ent2 c L).isSome, (ent3 c L).map fun v => (v.ws, v.dirty)⟩
theorem leOf_recv {c : Cache} {x : Msg} (hx : toHome x = false) : (cacheRecv c x).2 = (lrecv (leOf c x.line) x).2 ∧ ∀ l', leOf (cacheRecv c x).1 l' = if x.line = l' then (lrecv (leOf c x.line) x).1 else leOf c l' := by
  cases x with
  | recall co l keep =>
    show (afterRecall c co l keep).2 = (lrecv (leOf c l) (.recall co l keep)).2 ∧ ∀ l', leOf (afterRecall c co l keep).1 l' = if l = l' then (lrecv (leOf c l) (.recall co l keep)).1 else leOf c l'
    unfold afterRecall
    cases e1 : ent1 c l with
    | some e =>
      have e1' : (leOf c l).e1 = some (e.st, e.ws) := by unfold leOf; rw [e1]; rfl
      rw [lrecv_1 e1']
      refine ⟨rfl, fun l' => ?_⟩
      unfold leOf ent1 ent2 ent3 at *
      dsimp only
      cases keep with
      | true =>
        simp only [if_true]
        rw [find_rep (key := CE.line) (nw := ⟨l, .sh, e.ws⟩) rfl]
        by_cases z : l = l'
        · subst z
          rw [if_pos rfl, if_pos rfl, e1]
          rfl
        · rw [if_neg z, if_neg z]
      | false =>
        simp only [Bool.false_eq_true, if_false]
        rw [find_del (key := CE.line)]
        by_cases z : l = l'
        · subst z
          rw [if_pos rfl, if_pos rfl]
          rfl
        · rw [if_neg z, if_neg z]
    | none =>
      have e1' : (leOf c l).e1 = none := by unfold leOf; rw [e1]; rfl
      cases e3 : ent3 c l with
      | none =>
        have e3' : (leOf c l).e3 = none := by unfold leOf; rw [e3]; rfl
        have : lrecv (leOf c l) (.recall co l keep) = (leOf c l, []) := by
          unfold lrecv
          simp only [e1', e3']
        rw [this]
        refine ⟨rfl, fun l' => ?_⟩
        show leOf c l' = if l = l' then leOf c l else leOf c l'
        by_cases z : l = l'
        · subst z; rw [if_pos rfl]
        · rw [if_neg z]
      | some v =>
        have e3' : (leOf c l).e3 = some (v.ws, v.dirty) := by unfold leOf; rw [e3]; rfl
        rw [lrecv_2 e1' e3']
        refine ⟨rfl, fun l' => ?_⟩
        unfold leOf ent1 ent2 ent3 at *
        dsimp only
        rw [find_rep (key := LV.line) (nw := ⟨l, none, v.dirty⟩) rfl]
        by_cases z : l = l'
        · subst z
          rw [if_pos rfl, if_pos rfl, e3]
          rfl
        · rw [if_neg z, if_neg z]
  | inval co l =>
    refine ⟨rfl, fun l' => ?_⟩
    show leOf { c with lines := c.lines.filter (·.line != l) } l' = if l = l' then { leOf c l with e1 := none } else leOf c l'
    unfold leOf ent1 ent2 ent3
    dsimp only
    rw [find_del (key := CE.line)]
    by_cases z : l = l'
    · subst z; rw [if_pos rfl, if_pos rfl]; rfl
    · rw [if_neg z, if_neg z]
  | grant co l st w =>
    refine ⟨rfl, fun l' => ?_⟩
    show leOf { c with lines := c.lines.filter (·.line != l) ++ [⟨l, st, w⟩], req := c.req.filter (·.1 != l) } l' = if l = l' then { leOf c l with e1 := some (st, w), r := false } else leOf c l'
    unfold leOf ent1 ent2 ent3
    dsimp only
    rw [find_app (key := CE.line) (l := l) rfl, find_del (key := CE.line), find_del (key := fun x : Nat × Bool => x.1)]
    by_cases z : l = l'
    · subst z; simp
    · simp [z]
  | conf co l =>
    refine ⟨rfl, fun l' => ?_⟩
    show leOf { c with lvg := c.lvg.filter (·.line != l) } l' = if l = l' then { leOf c l with e3 := none } else leOf c l'
    unfold leOf ent1 ent2 ent3
    dsimp only
    rw [find_del (key := LV.line)]
    by_cases z : l = l'
    · subst z; rw [if_pos rfl, if_pos rfl]; rfl
    · rw [if_neg z, if_neg z]
  | _ => cases hx
def cacheAt (s : Sys) (i : Nat) : Cache := s.cs.getD i ⟨[], [], []⟩
def eOf (s : Sys) (L : Nat) : Nat → LE := fun i => leOf (cacheAt s i) L
def netOf (s : Sys) (L : Nat) : List Msg := s.net.filter fun x => x.line == L
def wlOf (cfg : Cfg) (N L : Nat) : Nat := min cfg.lw (N - L * cfg.lw)
structure GInv (cfg : Cfg) (n nl N : Nat) (s : Sys) : Prop where
  cl : s.cs.length = n
  hl : s.hs.length = nl
  ml : s.mem.length = N
  line : ∀ x ∈ s.net, x.line < nl
  inv : ∀ L h, s.hs[L]? = some h → LInv n (wlOf cfg N L) L (eOf s L) h (netOf s L)
theorem netOf_mid {N1 N2 : List Msg} {x : Msg} {L : Nat} : (N1 ++ x :: N2).filter (fun x => x.line == L) = N1.filter (fun x => x.line == L) ++ (if x.line = L then x :: N2.filter (fun x => x.line == L) else N2.filter (fun x => x.line == L)) := by
  rw [List.filter_append]
  by_cases h : x.line = L
  · rw [if_pos h, List.filter_cons_of_pos (by simp [h])]
  · rw [if_neg h, List.filter_cons_of_neg (by simp [h])]
theorem filter_all {ys : List Msg} {L : Nat} (h : ∀ y ∈ ys, y.line = L) (L' : Nat) : ys.filter (fun x => x.line == L') = if L = L' then ys else [] := by
  by_cases e : L = L'
  · rw [if_pos e, List.filter_eq_self]
    intro y hy
    simp [h y hy, e]
  · rw [if_neg e, List.filter_eq_nil_iff]
    intro y hy
    simp [h y hy, e]
theorem cacheAt_set {s : Sys} {c i : Nat} {x : Cache} {hs : List Home} {mem : List Nat} {net : List Msg} (hc : c < s.cs.length) : cacheAt ⟨s.cs.set c x, hs, mem, net⟩ i = if i = c then x else cacheAt s i := by
  unfold cacheAt
  by_cases e : i = c
  · subst e; simp [hc]
  · simp [e, List.getElem?_set_ne (Ne.symm e)]
theorem cacheRecv_lines {c : Cache} {x : Msg} (hx : toHome x = false) : ∀ y ∈ (cacheRecv c x).2, y.line = x.line := by
  rw [(leOf_recv hx).1]
  unfold lrecv
  repeat' split
  all_goals simp
  all_goals rfl

theorem homeRecv_wl {wl n L : Nat} {E : Nat → LE} {cfg : Cfg} {h : Home} {N1 N2 : List Msg} {ws : List Nat} {x : Msg} (I : LInv n wl L E h (N1 ++ x :: N2)) (hx : toHome x = true) (hr : recvOk h x) (hw : ws.length = wl) : (homeRecv cfg h ws x).2.1.length = wl := by
  have hm := I.wm x (by simp)
  cases x with
  | give c l w d =>
    show (if h.own = some c ∧ d = true then w else ws).length = wl
    split
    · exact hm
    · exact hw
  | retd c l w d =>
    obtain ⟨h1, h2⟩ := hr
    obtain ⟨s, h1⟩ := Option.isSome_iff_exists.mp h1
    have : (homeRecv cfg h ws (.retd c l w d)).2.1 = if d then w.getD [] else ws := by
      unfold homeRecv
      rw [h1]
    rw [this]
    cases d with
    | true =>
      obtain ⟨u, hu⟩ := Option.isSome_iff_exists.mp (h2 rfl)
      subst hu
      exact hm u rfl
    | false => exact hw
  | invald c l =>
    obtain ⟨s, h1⟩ := Option.isSome_iff_exists.mp hr
    have : (homeRecv cfg h ws (.invald c l)).2.1 = ws := by
      unfold homeRecv
      rw [h1]
    rw [this]
    exact hw
  | gets c l => exact hw
  | getm c l => exact hw
  | recd c l => exact hw
  | _ => cases hx
theorem LInv_home {wl n L : Nat} {E : Nat → LE} {cfg : Cfg} {h : Home} {N1 N2 : List Msg} {ws : List Nat} {x : Msg} (I : LInv n wl L E h (N1 ++ x :: N2)) (hx : toHome x = true) (hcr : canRecv h x = true) (hw : ws.length = wl) :
    recvOk h x ∧ LInv n wl L E (homeRecv cfg h ws x).1 (N1 ++ N2 ++ (homeRecv cfg h ws x).2.2) := by
  have hl : x.line = L := I.lin x (by simp)
  cases x with
  | give c l w d => cases hl; exact ⟨trivial, LInv_give I hcr⟩
  | retd c l w d => cases hl; exact ⟨⟨(LInv_retd (ws := ws) (cfg := cfg) I).1.1, fun _ => (LInv_retd (ws := ws) (cfg := cfg) I).1.2⟩, (LInv_retd I).2⟩
  | invald c l => cases hl; exact ⟨(LInv_invald (ws := ws) (cfg := cfg) I).1, (LInv_invald I).2⟩
  | gets c l => cases hl; exact ⟨trivial, LInv_get (.inr ⟨rfl, rfl⟩) I hcr hw⟩
  | getm c l => cases hl; exact ⟨trivial, LInv_get (.inl ⟨rfl, rfl⟩) I hcr hw⟩
  | recd c l => cases hl; exact ⟨trivial, LInv_recd I⟩
  | _ => cases hx
theorem LInv_cache {wl n L : Nat} {E : Nat → LE} {h : Home} {N1 N2 : List Msg} {x : Msg} (I : LInv n wl L E h (N1 ++ x :: N2)) (hx : toHome x = false) :
    (∀ c l k, x = .recall c l k → Has (E c)) ∧ LInv n wl L (upd E x.core (lrecv (E x.core) x).1) h (N1 ++ N2 ++ (lrecv (E x.core) x).2) := by
  have hl : x.line = L := I.lin x (by simp)
  cases x with
  | recall c l k => cases hl; exact ⟨fun _ _ _ e => by cases e; exact (LInv_recall I).1, (LInv_recall I).2⟩
  | inval c l => cases hl; exact ⟨fun _ _ _ e => (nomatch e), LInv_inval I⟩
  | grant c l st w => cases hl; exact ⟨fun _ _ _ e => (nomatch e), LInv_grant I⟩
  | conf c l => cases hl; exact ⟨fun _ _ _ e => (nomatch e), LInv_conf I⟩
  | _ => cases hx
theorem netOf_split {s : Sys} {i : Nat} {x : Msg} (hx : s.net[i]? = some x) : ∃ N1 N2, s.net = N1 ++ x :: N2 ∧ s.net.take i ++ s.net.drop (i + 1) = N1 ++ N2 := by
  have hi := (List.getElem?_eq_some_iff.mp hx)
  obtain ⟨h1, h2⟩ := hi
  refine ⟨s.net.take i, s.net.drop (i + 1), ?_, rfl⟩
  rw [← h2, ← List.drop_eq_getElem_cons h1, List.take_append_drop]
section
variable {cfg : Cfg} {n nl N : Nat} {s s' : Sys}
theorem GInv.wl (G : GInv cfg n nl N s) (L : Nat) : ((s.mem.drop (L * cfg.lw)).take cfg.lw).length = wlOf cfg N L := by
  unfold wlOf
  rw [List.length_take, List.length_drop, G.ml]
theorem deliv_mem {i : Nat} (h : i ∈ deliv s) : ∃ x, s.net[i]? = some x ∧ canDel s.hs x = true := by
  unfold deliv at h
  obtain ⟨p, hp, rfl⟩ := List.mem_map.mp h
  obtain ⟨h1, h2⟩ := List.mem_filter.mp hp
  obtain ⟨x, i⟩ := p
  have := List.mem_zipIdx_iff_getElem?.mp h1
  exact ⟨x, by simpa using this, h2⟩
theorem GInv.netOk (G : GInv cfg n nl N s) : NetOk s := by
  have hh : ∀ x ∈ s.net, ∃ h N1 N2, s.hs[x.line]? = some h ∧ LInv n (wlOf cfg N x.line) x.line (eOf s x.line) h (N1 ++ x :: N2) := by
    intro x hx
    have hl := G.line x hx
    rw [← G.hl] at hl
    have e := List.getElem?_eq_getElem hl
    have I := G.inv _ _ e
    obtain ⟨N1, N2, h2⟩ := List.append_of_mem (show x ∈ netOf s x.line from List.mem_filter.mpr ⟨hx, by simp⟩)
    rw [h2] at I
    exact ⟨_, N1, N2, e, I⟩
  refine ⟨fun x hx => by rw [G.hl]; exact G.line x hx, fun x hx => ?_, fun x hx ht h he hc => ?_, fun x hx ht c hc => ?_⟩
  · obtain ⟨h, N1, N2, e, I⟩ := hh x hx
    rw [G.cl]
    exact I.cor x (by simp)
  · obtain ⟨h', N1, N2, e, I⟩ := hh x hx
    rw [e] at he
    cases he
    exact (LInv_home (cfg := cfg) I ht hc (G.wl x.line)).1
  · obtain ⟨h', N1, N2, e, I⟩ := hh x hx
    have := (LInv_cache I ht).1
    cases x with
    | recall co l k =>
      have hH := this co l k rfl
      have e2 : cacheAt s co = c := by
        unfold cacheAt
        rw [List.getD_eq_getElem?_getD, show s.cs[co]? = some c from hc]
        rfl
      show (ent1 c l).isSome = true ∨ (ent3 c l).isSome = true
      unfold eOf at hH
      rw [e2] at hH
      rcases has_of hH with ⟨st, w, z⟩ | ⟨_, w, d, z⟩
      · left
        unfold leOf at z
        cases z2 : ent1 c l with
        | some _ => rfl
        | none => simp only [show (Msg.recall co l k).line = l from rfl, z2] at z; cases z
      · right
        unfold leOf at z
        cases z2 : ent3 c l with
        | some _ => rfl
        | none => simp only [show (Msg.recall co l k).line = l from rfl, z2] at z; cases z
    | _ => trivial
theorem GInv.deliver (G : GInv cfg n nl N s) {i : Nat} (hi : i ∈ deliv s) : GInv cfg n nl N (delivered cfg s i) := by
  obtain ⟨x, hx, hd⟩ := deliv_mem hi
  have hmem : x ∈ s.net := List.mem_of_getElem? hx
  obtain ⟨N1, N2, e1, e2⟩ := netOf_split hx
  have hl := G.line x hmem
  have hl' : x.line < s.hs.length := by rw [G.hl]; exact hl
  have hNO := G.netOk
  have heh := List.getElem?_eq_getElem hl'
  obtain ⟨h, hh⟩ : ∃ h, s.hs[x.line]? = some h := ⟨_, heh⟩
  have I := G.inv _ _ hh
  have eN : netOf s x.line = N1.filter (fun y => y.line == x.line) ++ x :: N2.filter (fun y => y.line == x.line) := by
    unfold netOf
    rw [e1, netOf_mid, if_pos rfl]
  have eN' : ∀ L', L' ≠ x.line → netOf s L' = N1.filter (fun y => y.line == L') ++ N2.filter (fun y => y.line == L') := fun L' hL' => by
    unfold netOf
    rw [e1, netOf_mid, if_neg (Ne.symm hL')]
  rw [eN] at I
  unfold delivered
  rw [hx]
  dsimp only
  rw [e2]
  cases ht : toHome x with
  | true =>
    rw [if_pos rfl, hh]
    dsimp only
    have hcr : canRecv h x = true := by
      unfold canDel at hd
      rw [ht, List.getD_eq_getElem?_getD, hh] at hd
      exact hd
    obtain ⟨hr, I'⟩ := LInv_home (cfg := cfg) I ht hcr (G.wl x.line)
    have hwl := homeRecv_wl (cfg := cfg) I ht hr (G.wl x.line)
    obtain ⟨r, hr'⟩ : ∃ r, r = homeRecv cfg h (List.take cfg.lw (List.drop (x.line * cfg.lw) s.mem)) x := ⟨_, rfl⟩
    rw [← hr'] at I' hwl ⊢
    have hyl : ∀ y ∈ r.2.2, y.line = x.line := fun y hy => I'.lin y (List.mem_append_right _ hy)
    have hml := G.ml
    refine ⟨G.cl, by rw [List.length_set]; exact G.hl, ?_, fun y hy => ?_, fun L' h' hh' => ?_⟩
    · unfold wlOf at hwl
      simp only [List.length_append, List.length_take, List.length_drop, hml, hwl]
      omega
    · rcases List.mem_append.mp hy with hy | hy
      · refine G.line y ?_
        rw [e1]
        rcases List.mem_append.mp hy with hy | hy
        · exact List.mem_append_left _ hy
        · exact List.mem_append_right _ (List.mem_cons_of_mem _ hy)
      · rw [hyl y hy]; exact hl
    · have hfa := filter_all hyl L'
      by_cases eL : L' = x.line
      · subst eL
        rw [List.getElem?_set_self hl'] at hh'
        cases hh'
        have : netOf ⟨s.cs, s.hs.set x.line r.1, List.take (x.line * cfg.lw) s.mem ++ r.2.1 ++ List.drop (x.line * cfg.lw + cfg.lw) s.mem, N1 ++ N2 ++ r.2.2⟩ x.line = N1.filter (fun y => y.line == x.line) ++ N2.filter (fun y => y.line == x.line) ++ r.2.2 := by
          unfold netOf
          rw [List.filter_append, List.filter_append, hfa, if_pos rfl]
        rw [this]
        exact I'
      · rw [List.getElem?_set_ne (Ne.symm eL)] at hh'
        have : netOf ⟨s.cs, s.hs.set x.line r.1, List.take (x.line * cfg.lw) s.mem ++ r.2.1 ++ List.drop (x.line * cfg.lw + cfg.lw) s.mem, N1 ++ N2 ++ r.2.2⟩ L' = netOf s L' := by
          rw [eN' L' eL]
          unfold netOf
          rw [List.filter_append, List.filter_append, hfa, if_neg (Ne.symm eL), List.append_nil]
        rw [this]
        exact G.inv L' h' hh'
  | false =>
    have hc : x.core < s.cs.length := hNO.core x hmem
    have hcc := List.getElem?_eq_getElem hc
    rw [if_neg Bool.false_ne_true, hcc]
    dsimp only
    have hca : cacheAt s x.core = s.cs[x.core] := by
      unfold cacheAt
      rw [List.getD_eq_getElem?_getD, hcc]
      rfl
    obtain ⟨l1, l2⟩ := leOf_recv (c := s.cs[x.core]) ht
    have hyl := cacheRecv_lines (c := s.cs[x.core]) ht
    have I' := (LInv_cache I ht).2
    have eE : eOf s x.line x.core = leOf s.cs[x.core] x.line := by unfold eOf; rw [hca]
    rw [eE, ← l1] at I'
    refine ⟨by rw [List.length_set]; exact G.cl, G.hl, G.ml, fun y hy => ?_, fun L' h' hh' => ?_⟩
    · rcases List.mem_append.mp hy with hy | hy
      · refine G.line y ?_
        rw [e1]
        rcases List.mem_append.mp hy with hy | hy
        · exact List.mem_append_left _ hy
        · exact List.mem_append_right _ (List.mem_cons_of_mem _ hy)
      · rw [hyl y hy]; exact hl
    · have hfa := filter_all hyl L'
      have eEs : eOf ⟨s.cs.set x.core (cacheRecv s.cs[x.core] x).1, s.hs, s.mem, N1 ++ N2 ++ (cacheRecv s.cs[x.core] x).2⟩ L' = if L' = x.line then upd (eOf s L') x.core (lrecv (leOf s.cs[x.core] x.line) x).1 else eOf s L' := by
        funext j
        show leOf (cacheAt _ j) L' = _
        rw [cacheAt_set hc]
        by_cases ej : j = x.core
        · rw [if_pos ej, l2 L']
          by_cases eL : L' = x.line
          · rw [if_pos eL.symm, if_pos eL]
            unfold upd
            rw [if_pos ej]
          · rw [if_neg (Ne.symm eL), if_neg eL]
            unfold eOf
            rw [ej, hca]
        · rw [if_neg ej]
          by_cases eL : L' = x.line
          · rw [if_pos eL, upd_ne ej]; rfl
          · rw [if_neg eL]; rfl
      rw [eEs]
      by_cases eL : L' = x.line
      · subst eL
        dsimp only at hh'
        rw [hh] at hh'
        cases hh'
        rw [if_pos rfl]
        have : netOf ⟨s.cs.set x.core (cacheRecv s.cs[x.core] x).1, s.hs, s.mem, N1 ++ N2 ++ (cacheRecv s.cs[x.core] x).2⟩ x.line = N1.filter (fun y => y.line == x.line) ++ N2.filter (fun y => y.line == x.line) ++ (cacheRecv s.cs[x.core] x).2 := by
          unfold netOf
          rw [List.filter_append, List.filter_append, hfa, if_pos rfl]
        rw [this]
        exact I'
      · rw [if_neg eL]
        have : netOf ⟨s.cs.set x.core (cacheRecv s.cs[x.core] x).1, s.hs, s.mem, N1 ++ N2 ++ (cacheRecv s.cs[x.core] x).2⟩ L' = netOf s L' := by
          rw [eN' L' eL]
          unfold netOf
          rw [List.filter_append, List.filter_append, hfa, if_neg (Ne.symm eL), List.append_nil]
        rw [this]
        exact G.inv L' h' hh'
end
end Ev

set_option Elab.async false
set_option linter.all false
set_option maxRecDepth 100000
set_option maxHeartbeats 400000
/-! In4: the memory system's invariant: requests, giving up, the start, sizes. -/
namespace Ev
open PySem
section
variable {cfg : Cfg} {n nl N : Nat} {s s' : Sys}
theorem requestLine_le {ca : Cache} {c l : Nat} {ex : Bool} {r : Cache × Msg} (h : requestLine cfg ca c l ex = some r) :
    (leOf ca l).r = false ∧ (leOf ca l).e3 = none ∧ (r.2 = .gets c l ∨ r.2 = .getm c l) ∧ ∀ l', leOf r.1 l' = if l' = l then { leOf ca l with r := true } else leOf ca l' := by
  unfold requestLine at h
  split at h
  · cases h
  · rename_i h0
    have h0 : ¬((ent2 ca l).isSome = true ∨ (ent3 ca l).isSome = true) := by simpa using h0
    have h2 : ent2 ca l = none := by
      cases e : ent2 ca l with
      | none => rfl
      | some _ => rw [e] at h0; exact absurd (.inl rfl) h0
    have h3 : ent3 ca l = none := by
      cases e : ent3 ca l with
      | none => rfl
      | some _ => rw [e] at h0; exact absurd (.inr rfl) h0
    have key : ∀ l', leOf { ca with req := ca.req ++ [(l, ex)] } l' = if l' = l then { leOf ca l with r := true } else leOf ca l' := fun l' => by
      unfold leOf ent1 ent2 ent3
      dsimp only
      rw [find_app (key := fun x : Nat × Bool => x.1) (l := l) rfl]
      by_cases e : l' = l
      · subst e; simp
      · simp [e, Ne.symm e]
    refine ⟨by unfold leOf; rw [h2]; rfl, by unfold leOf; rw [h3]; rfl, ?_⟩
    split at h
    · cases h
    · split at h
      · split at h
        · cases h
        · cases h
          exact ⟨by cases ex <;> simp, key⟩
      · split at h
        · cases h
          exact ⟨.inr rfl, key⟩
        · cases h
theorem giveUp_le {ca : Cache} {c l : Nat} {r : Cache × List Msg} (h : giveUp ca c l = some r) :
    ∃ st w, (leOf ca l).r = false ∧ (leOf ca l).e1 = some (st, w) ∧ r.2 = (if st = .sh then [] else [.give c l w (st == .mo)]) ∧
      ∀ l', (leOf ca l).e3 = none → leOf r.1 l' = if l' = l then (if st = .sh then { leOf ca l with e1 := none } else { leOf ca l with e1 := none, e3 := some (some w, st == .mo) }) else leOf ca l' := by
  unfold giveUp at h
  cases e1 : ent1 ca l with
  | none => rw [e1] at h; cases h
  | some e =>
    rw [e1] at h
    dsimp only at h
    split at h
    · cases h
    · rename_i h2
      have h2 : ent2 ca l = none := by
        cases e : ent2 ca l with
        | none => rfl
        | some _ => rw [e] at h2; exact absurd rfl h2
      refine ⟨e.st, e.ws, by unfold leOf; rw [h2]; rfl, by unfold leOf; rw [e1]; rfl, ?_⟩
      by_cases hs : e.st = .sh
      · rw [hs] at h ⊢
        cases h
        refine ⟨rfl, fun l' h3 => ?_⟩
        rw [if_pos rfl]
        unfold leOf ent1 ent2 ent3
        dsimp only
        rw [find_del (key := CE.line)]
        by_cases z : l' = l
        · subst z; simp
        · simp [z, Ne.symm z]
      · rw [if_neg (by simp [hs])] at h
        rw [if_neg hs]
        cases h
        refine ⟨rfl, fun l' h3 => ?_⟩
        rw [if_neg hs]
        unfold leOf ent1 ent2 ent3 at *
        dsimp only at *
        rw [find_del (key := CE.line), find_app (key := LV.line) (l := l) rfl]
        by_cases z : l' = l
        · subst z
          have : List.find? (fun x => x.line == l') ca.lvg = none := by
            cases z : List.find? (fun x => x.line == l') ca.lvg with
            | none => rfl
            | some _ => rw [z] at h3; cases h3
          simp [this]
        · simp [z, Ne.symm z]
theorem GInv.cacheStep (G : GInv cfg n nl N s) {c l : Nat} {ca ca' : Cache} {ms : List Msg} {e' : LE} (hca : s.cs[c]? = some ca) (hl : l < s.hs.length) (hm : ∀ y ∈ ms, y.line = l)
    (he : ∀ l', leOf ca' l' = if l' = l then e' else leOf ca l') (hI : ∀ h, s.hs[l]? = some h → LInv n (wlOf cfg N l) l (eOf s l) h (netOf s l) → LInv n (wlOf cfg N l) l (upd (eOf s l) c e') h (netOf s l ++ ms)) : GInv cfg n nl N ⟨s.cs.set c ca', s.hs, s.mem, s.net ++ ms⟩ := by
  have hc := (List.getElem?_eq_some_iff.mp hca).1
  have hcA : cacheAt s c = ca := by unfold cacheAt; rw [List.getD_eq_getElem?_getD, hca]; rfl
  refine ⟨by rw [List.length_set]; exact G.cl, G.hl, G.ml, fun y hy => ?_, fun L' h' hh' => ?_⟩
  · rcases List.mem_append.mp hy with hy | hy
    · exact G.line y hy
    · rw [hm y hy, ← G.hl]; exact hl
  · have hfa := filter_all hm L'
    have eEs : eOf ⟨s.cs.set c ca', s.hs, s.mem, s.net ++ ms⟩ L' = if L' = l then upd (eOf s L') c e' else eOf s L' := by
      funext j
      show leOf (cacheAt _ j) L' = _
      rw [cacheAt_set hc]
      by_cases ej : j = c
      · rw [if_pos ej, he L']
        by_cases eL : L' = l
        · rw [if_pos eL, if_pos eL]
          unfold upd
          rw [if_pos ej]
        · rw [if_neg eL, if_neg eL]
          unfold eOf
          rw [ej, hcA]
      · rw [if_neg ej]
        by_cases eL : L' = l
        · rw [if_pos eL, upd_ne ej]; rfl
        · rw [if_neg eL]; rfl
    have eN : netOf ⟨s.cs.set c ca', s.hs, s.mem, s.net ++ ms⟩ L' = netOf s L' ++ if l = L' then ms else [] := by
      unfold netOf
      rw [List.filter_append, hfa]
    rw [eEs, eN]
    have I := G.inv L' h' hh'
    by_cases eL : L' = l
    · subst eL
      rw [if_pos rfl, if_pos rfl]
      exact hI h' hh' I
    · rw [if_neg eL, if_neg (Ne.symm eL), List.append_nil]
      exact I
theorem GInv.step (G : GInv cfg n nl N s) {a : Act} (h : nextSys cfg s a = some s') : GInv cfg n nl N s' := by
  cases a with
  | deliver i =>
    have h : (if i ∈ deliv s then some (delivered cfg s i) else none) = some s' := h
    split at h
    · rename_i hi
      rw [← Option.some.inj h]
      exact G.deliver hi
    · cases h
  | request c l ex =>
    have h : (match s.cs[c]? with
    | none => none
    | some ca => if l < s.hs.length then (requestLine cfg ca c l ex).map fun r => (⟨s.cs.set c r.1, s.hs, s.mem, s.net ++ [r.2]⟩ : Sys) else none) = some s' := h
    cases hca : s.cs[c]? with
    | none => rw [hca] at h; cases h
    | some ca =>
      rw [hca] at h
      dsimp only at h
      split at h
      · rename_i hl
        obtain ⟨r, hr, rfl⟩ := Option.map_eq_some_iff.mp h
        obtain ⟨q1, q2, q3, q4⟩ := requestLine_le hr
        have hc := (List.getElem?_eq_some_iff.mp hca).1
        have hcA : cacheAt s c = ca := by unfold cacheAt; rw [List.getD_eq_getElem?_getD, hca]; rfl
        have eE : eOf s l c = leOf ca l := by unfold eOf; rw [hcA]
        refine G.cacheStep hca hl (fun y hy => ?_) q4 fun h' hh' I => ?_
        · rw [List.mem_singleton.mp hy]
          rcases q3 with q3 | q3 <;> rw [q3] <;> rfl
        · rw [← eE] at q1 q2 ⊢
          exact LInv_request I (by rw [← G.cl]; exact hc) q1 q2 q3
      · cases h
  | evict c l =>
    have h : (match s.cs[c]? with
    | none => none
    | some ca => if l < s.hs.length then (giveUp ca c l).map fun r => (⟨s.cs.set c r.1, s.hs, s.mem, s.net ++ r.2⟩ : Sys) else none) = some s' := h
    cases hca : s.cs[c]? with
    | none => rw [hca] at h; cases h
    | some ca =>
      rw [hca] at h
      dsimp only at h
      split at h
      · rename_i hl
        obtain ⟨r, hr, rfl⟩ := Option.map_eq_some_iff.mp h
        obtain ⟨st, w, q1, q2, q3, q4⟩ := giveUp_le hr
        have hc := (List.getElem?_eq_some_iff.mp hca).1
        have hcA : cacheAt s c = ca := by unfold cacheAt; rw [List.getD_eq_getElem?_getD, hca]; rfl
        have eE : eOf s l c = leOf ca l := by unfold eOf; rw [hcA]
        have hh' := List.getElem?_eq_getElem hl
        have I := G.inv l _ hh'
        have h3 : (leOf ca l).e3 = none := by rw [← eE]; exact I.k4 c (by rw [eE, q2]; rfl)
        refine G.cacheStep hca hl (fun y hy => ?_) (fun l' => q4 l' h3) fun h' hh' I => ?_
        · rw [q3] at hy
          split at hy
          · cases hy
          · rw [List.mem_singleton.mp hy]; rfl
        · rw [← eE] at q1 q2 ⊢
          rw [q3]
          exact LInv_evict I (by rw [← G.cl]; exact hc) q1 q2
      · cases h
  | _ => cases h
/-! ### the start -/
theorem GInv.start {nn : Nat} {mem : List Nat} : GInv cfg nn (nLines mem.length cfg.lw) mem.length (startSys cfg nn mem) := by
  refine ⟨by simp [startSys], by simp [startSys], rfl, fun x hx => (nomatch hx), fun L h hh => ?_⟩
  have hh : h = ⟨none, [], none⟩ := by
    simp [startSys, List.getElem?_replicate] at hh
    exact hh.2.symm
  have hE : ∀ i, eOf (startSys cfg nn mem) L i = ⟨none, false, none⟩ := fun i => by
    unfold eOf
    have : cacheAt (startSys cfg nn mem) i = ⟨[], [], []⟩ := by
      unfold cacheAt startSys
      simp [List.getD_eq_getElem?_getD, List.getElem?_replicate]
      split <;> rfl
    rw [this]
    rfl
  have hN : netOf (startSys cfg nn mem) L = [] := rfl
  rw [hN, hh]
  refine ⟨fun x hx => (nomatch hx), fun x hx => (nomatch hx), List.nodup_nil, fun o h => (nomatch h), fun o h => (nomatch h), List.nodup_nil, fun o h => (nomatch h), fun i => ?_, fun i hi => ?_, fun i => ?_, fun i hi => ?_, fun a => rfl, fun i hi => (nomatch hi), ⟨rfl, fun o h => (nomatch h)⟩, fun i st w e => ?_, fun i w d e => ?_, fun s w h => (nomatch h), fun x hx => (nomatch hx)⟩
  · rw [hE]; rfl
  · rw [hE] at hi ⊢
  · rw [hE]; rfl
  · rw [hE]
  · rw [hE] at e; cases e
  · rw [hE] at e; cases e
/-! ### sizes -/
theorem nodup_le : ∀ {n : Nat} {l : List Nat}, l.Nodup → (∀ a ∈ l, a < n) → l.length ≤ n
  | 0, l, _, h => by
    cases l with
    | nil => exact Nat.le_refl _
    | cons a _ => exact absurd (h a (List.mem_cons_self ..)) (Nat.not_lt_zero _)
  | n + 1, l, hn, h => by
    by_cases hm : n ∈ l
    · have h1 := nodup_le (n := n) (l := l.erase n) (hn.erase n) fun a ha => by
        have h2 := h a (List.mem_of_mem_erase ha)
        have h3 : a ≠ n := fun e => by
          subst e
          exact (List.Nodup.mem_erase_iff hn).mp ha |>.1 rfl
        omega
      rw [List.length_erase_of_mem hm] at h1
      omega
    · have h1 := nodup_le (n := n) (l := l) hn fun a ha => by
        have h2 := h a ha
        have h3 : a ≠ n := fun e => hm (e ▸ ha)
        omega
      omega
structure CBd (t : Nat) (c : Cache) : Prop where
  l : c.lines.length ≤ t
  r : c.req.length ≤ t
  v : c.lvg.length ≤ t
structure Bd (t n : Nat) (s : Sys) : Prop where
  c : ∀ c ∈ s.cs, CBd t c
  n : s.net.length ≤ (n + 2) * t
theorem CBd.mono {t t' : Nat} {c : Cache} (h : CBd t c) (ht : t ≤ t') : CBd t' c := ⟨Nat.le_trans h.l ht, Nat.le_trans h.r ht, Nat.le_trans h.v ht⟩
theorem Bd.mono {t t' n : Nat} (h : Bd t n s) (ht : t ≤ t') : Bd t' n s := ⟨fun c hc => (h.c c hc).mono ht, Nat.le_trans h.n (Nat.mul_le_mul_left _ ht)⟩
theorem CBd.recv {t : Nat} {c : Cache} (h : CBd t c) (x : Msg) : CBd (t + 1) (cacheRecv c x).1 := by
  have f1 := List.length_filter_le (fun x : CE => x.line != x.line) c.lines
  have hl := h.l
  have hr := h.r
  have hv := h.v
  cases x with
  | recall co l keep =>
    show CBd (t + 1) (afterRecall c co l keep).1
    unfold afterRecall
    split
    · split
      · exact h.mono (by omega)
      · exact ⟨by dsimp only; omega, by dsimp only; omega, by dsimp only; rw [List.length_map]; omega⟩
    · refine ⟨?_, by dsimp only; omega, by dsimp only; omega⟩
      dsimp only
      split
      · rw [List.length_map]; omega
      · exact Nat.le_trans (List.length_filter_le ..) (by omega)
  | inval co l => exact ⟨Nat.le_trans (List.length_filter_le ..) (by omega), by show c.req.length ≤ _; omega, by show c.lvg.length ≤ _; omega⟩
  | grant co l st w =>
    refine ⟨?_, Nat.le_trans (List.length_filter_le ..) (by omega), by show c.lvg.length ≤ _; omega⟩
    show (c.lines.filter (fun e : CE => e.line != l) ++ [(⟨l, st, w⟩ : CE)]).length ≤ _
    rw [List.length_append, List.length_singleton]
    exact Nat.succ_le_succ (Nat.le_trans (List.length_filter_le ..) hl)
  | conf co l => exact ⟨by show c.lines.length ≤ _; omega, by show c.req.length ≤ _; omega, Nat.le_trans (List.length_filter_le ..) (by omega)⟩
  | _ => exact h.mono (by omega)
theorem homeRecv_ms (cfg : Cfg) (h : Home) (ws : List Nat) (x : Msg) {n : Nat} (hs : h.shs.length ≤ n) : (homeRecv cfg h ws x).2.2.length ≤ n + 2 := by
  have hb : ∀ c l ex, (begun h ws c l ex).2.length ≤ n + 1 := fun c l ex => by
    unfold begun
    split
    · simp
    · simp only [List.length_map]
      split
      · exact Nat.le_trans (List.length_filter_le ..) (by omega)
      · simp
  unfold homeRecv
  split
  · simp
  · simp
  · split
    · simp
    · exact Nat.le_trans (grantIf_len ..) (by omega)
  · split
    · simp
    · exact Nat.le_trans (grantIf_len ..) (by omega)
  · rw [List.length_append]
    exact Nat.le_trans (Nat.add_le_add (hb ..) (grantIf_len ..)) (by omega)
  · rw [List.length_append]
    exact Nat.le_trans (Nat.add_le_add (hb ..) (grantIf_len ..)) (by omega)
  · simp
theorem Bd.cs {t n : Nat} (h : Bd t n s) {c : Nat} {ca : Cache} (hc : CBd (t + 1) ca) : ∀ c' ∈ s.cs.set c ca, CBd (t + 1) c' := fun c' hm => by
  rcases List.mem_or_eq_of_mem_set hm with hm | rfl
  · exact (h.c c' hm).mono (by omega)
  · exact hc
theorem Bd.step {t : Nat} (G : GInv cfg n nl N s) (B : Bd t n s) {a : Act} (h : nextSys cfg s a = some s') : Bd (t + 1) n s' := by
  have hn := B.n
  have ht : (n + 2) * (t + 1) = (n + 2) * t + (n + 2) := by rw [Nat.mul_add, Nat.mul_one]
  cases a with
  | deliver i =>
    have h : (if i ∈ deliv s then some (delivered cfg s i) else none) = some s' := h
    split at h
    · rename_i hi
      rw [← Option.some.inj h]
      obtain ⟨x, hx, hd⟩ := deliv_mem hi
      have hmem : x ∈ s.net := List.mem_of_getElem? hx
      have hi2 := (List.getElem?_eq_some_iff.mp hx).1
      unfold delivered
      rw [hx]
      dsimp only
      have hrl : (List.take i s.net ++ List.drop (i + 1) s.net).length ≤ s.net.length := by simp; omega
      split
      · split
        · exact B.mono (by omega)
        · rename_i hh eh
          have hsl : hh.shs.length ≤ n := by
            have I := G.inv _ _ eh
            exact nodup_le I.nd I.bs
          refine ⟨fun c hc => (B.c c hc).mono (by omega), ?_⟩
          dsimp only
          rw [List.length_append]
          have := homeRecv_ms cfg hh (List.take cfg.lw (List.drop (x.line * cfg.lw) s.mem)) x hsl
          omega
      · split
        · exact B.mono (by omega)
        · rename_i ca eca
          refine ⟨B.cs ((B.c ca (List.mem_of_getElem? eca)).recv x), ?_⟩
          dsimp only
          rw [List.length_append]
          have := cacheRecv_len ca x
          omega
    · cases h
  | request c l ex =>
    have h : (match s.cs[c]? with
    | none => none
    | some ca => if l < s.hs.length then (requestLine cfg ca c l ex).map fun r => (⟨s.cs.set c r.1, s.hs, s.mem, s.net ++ [r.2]⟩ : Sys) else none) = some s' := h
    cases hca : s.cs[c]? with
    | none => rw [hca] at h; cases h
    | some ca =>
      rw [hca] at h
      dsimp only at h
      split at h
      · obtain ⟨r, hr, rfl⟩ := Option.map_eq_some_iff.mp h
        have hb := B.c ca (List.mem_of_getElem? hca)
        refine ⟨B.cs ?_, by dsimp only; rw [List.length_append, List.length_singleton]; omega⟩
        have hbl := hb.l
        have hbr := hb.r
        have hbv := hb.v
        have key : CBd (t + 1) { ca with req := ca.req ++ [(l, ex)] } := ⟨by dsimp only; omega, by dsimp only; rw [List.length_append, List.length_singleton]; omega, by dsimp only; omega⟩
        unfold requestLine at hr
        repeat' split at hr
        all_goals first | cases hr; done | (cases hr; exact key)
      · cases h
  | evict c l =>
    have h : (match s.cs[c]? with
    | none => none
    | some ca => if l < s.hs.length then (giveUp ca c l).map fun r => (⟨s.cs.set c r.1, s.hs, s.mem, s.net ++ r.2⟩ : Sys) else none) = some s' := h
    cases hca : s.cs[c]? with
    | none => rw [hca] at h; cases h
    | some ca =>
      rw [hca] at h
      dsimp only at h
      split at h
      · obtain ⟨r, hr, rfl⟩ := Option.map_eq_some_iff.mp h
        have hb := B.c ca (List.mem_of_getElem? hca)
        have := giveUp_len hr
        refine ⟨B.cs ?_, by dsimp only; rw [List.length_append]; omega⟩
        have hbl := hb.l
        have hbr := hb.r
        have hbv := hb.v
        have hf := List.length_filter_le (fun x : CE => x.line != l) ca.lines
        unfold giveUp at hr
        repeat' split at hr
        all_goals first | cases hr; done | (cases hr; exact ⟨by dsimp only; omega, by dsimp only; omega, by dsimp only; first | (rw [List.length_append, List.length_singleton]; omega) | omega⟩)
      · cases h
  | _ => cases h
theorem Bd.start {nn : Nat} {mem : List Nat} : Bd 0 nn (startSys cfg nn mem) := by
  refine ⟨fun c hc => ?_, Nat.zero_le _⟩
  rw [(List.mem_replicate.mp hc).2]
  exact ⟨Nat.le_refl _, Nat.le_refl _, Nat.le_refl _⟩
theorem Bd.small {t : Nat} (G : GInv cfg n nl N s) (B : Bd t n s) (ht : t ≤ 10000) (hn : n ≤ 16) (hnl : nl ≤ 1000000) (hN : N ≤ 1000000) (hlw : cfg.lw ≤ 1000000) : SSmall s := by
  have hB := B.n
  have h1 : (n + 2) * t ≤ 18 * 10000 := Nat.mul_le_mul (by omega) ht
  have hw : ∀ L, wlOf cfg N L ≤ 1000000 := fun L => by unfold wlOf; omega
  have hx : ∀ x ∈ s.net, msgW (wlOf cfg N x.line) x := fun x hx => by
    have hl := G.line x hx
    rw [← G.hl] at hl
    exact (G.inv _ _ (List.getElem?_eq_getElem hl)).wm x (List.mem_filter.mpr ⟨hx, by simp⟩)
  refine ⟨fun c hc => ?_, by rw [G.cl]; omega, by rw [G.hl]; exact hnl, fun h hh => ?_, fun h hh v hv => ?_, by omega, by rw [G.ml]; exact hN, fun c l w d hm => ?_, fun c l w d hm => ?_⟩
  · have := B.c c hc
    exact ⟨Nat.le_trans this.l (by omega), Nat.le_trans this.r (by omega), Nat.le_trans this.v (by omega)⟩
  · obtain ⟨L, hL⟩ := List.getElem?_of_mem hh
    have I := G.inv L h hL
    have := nodup_le I.nd I.bs
    omega
  · obtain ⟨L, hL⟩ := List.getElem?_of_mem hh
    have I := G.inv L h hL
    have h1 := I.an
    have h2 := I.ab
    unfold awtOf at h1 h2
    rw [hv] at h1 h2
    have : v.awt.length ≤ n := nodup_le h1 h2
    omega
  · have := hx _ hm w rfl
    rw [this]
    exact hw _
  · have : w.length = _ := hx _ hm
    rw [this]
    exact hw _
end
end Ev

set_option Elab.async false
set_option linter.all false
set_option maxRecDepth 100000
set_option maxHeartbeats 400000
/-! Dr: the laws' draws. -/
namespace Ev
open PySem
/-- ends with a value, and so (no def, lest a look at its type runs the program) -/
inductive Sat {α : Type} : Res α → (α → Sto → Prop) → Prop
  | ok {a : α} {m : Sto} {Q : α → Sto → Prop} (h : Q a m) : Sat (.ok a m) Q
@[simp] theorem Sat_ok {α : Type} {a : α} {m : Sto} {Q : α → Sto → Prop} : Sat (.ok a m) Q = Q a m := propext ⟨fun h => by cases h; assumption, .ok⟩
theorem Sat_cg {α : Type} {r r' : Res α} {Q : α → Sto → Prop} (h : r = r') : Sat r Q = Sat r' Q := by rw [h]
theorem Sat.ex {α : Type} {r : Res α} {Q : α → Sto → Prop} (h : Sat r Q) : ∃ a m, r = .ok a m ∧ Q a m := by
  cases h with
  | ok h => exact ⟨_, _, rfl, h⟩
theorem Sat.mono {α : Type} {r : Res α} {Q Q' : α → Sto → Prop} (h : Sat r Q) (hq : ∀ a m, Q a m → Q' a m) : Sat r Q' := by
  cases h with
  | ok h => exact .ok (hq _ _ h)
theorem Sat.no {α : Type} {Q : α → Sto → Prop} (h : Sat (.bad) Q) : False := by cases h
/-- the tape: a list at location 0 -/
def Tape (m : Sto) : Prop := ∃ (ns : List Int) (p : Nat) (q s : Int), m = [.lst [.lst (ns.map .int), .int p, .int q, .int s]]
section
variable {cal : Nat → List D → Sto → Res D} {l : Lo} {m : Sto} {e : E} {xs : List D} {d : D}
/-- a store into the list at location 0, named by the first slot -/
def setI1 (cal : Nat → List D → Sto → Res D) (j : Int) (l : Lo) (d : D) (m : Sto) : Res Out := lift l (plE gg cal (.var 0) l m) fun p m => lift l (evM gg cal (.cst (.int j)) .p l m) fun j m => match j with
    | .int j => liftO (p.xs l m) fun xs => liftO (L2.ixN xs.length j) fun n => .ok (.nx (p.put (xs.set n d) l m).1) (p.put (xs.set n d) l m).2
    | _ => .bad
@[simp] theorem s_setI {j : Int} : evS gg cal (.setI (.var 0) (.cst (.int j)) e) l m = lift l (evM gg cal e .p l m) (setI1 cal j l) := (rfl)
variable {x0 x1 x2 x3 : D} {ls : Lo}
@[simp] theorem setI_1 : setI1 cal 1 (.val (.loc 0) :: ls) d [.lst [x0, x1, x2, x3]] = .ok (.nx (.val (.loc 0) :: ls)) [.lst [x0, d, x2, x3]] := (rfl)
@[simp] theorem setI_2 : setI1 cal 2 (.val (.loc 0) :: ls) d [.lst [x0, x1, x2, x3]] = .ok (.nx (.val (.loc 0) :: ls)) [.lst [x0, x1, d, x3]] := (rfl)
@[simp] theorem setI_3 : setI1 cal 3 (.val (.loc 0) :: ls) d [.lst [x0, x1, x2, x3]] = .ok (.nx (.val (.loc 0) :: ls)) [.lst [x0, x1, x2, d]] := (rfl)
theorem ix_loc {i : Int} : dIdx [.lst xs] (.loc 0) (.int i) = L2.atI xs i := rfl
end
theorem mulC {i j : Int} (h : j.natAbs < 18446744073709551616) : dBin .Mult (.int i) (.int j) = some (.int (i * j)) := b_mul (by
  unfold mulOk
  rw [Bool.or_eq_true, decide_eq_true_eq, decide_eq_true_eq]
  exact .inr h)
theorem pow18 : dBin .Pow (.int 10) (.int 18) = some (.int 1000000000000000000) :=
  (if_pos (e := none) (by decide +kernel : (0 : Int) ≤ 18 ∧ (18 : Int) ≤ 1000000 ∧ (10 : Int).natAbs < 2 ^ 64)).trans (congrArg (fun z => some (D.int z)) (by decide +kernel : (10 : Int) ^ (18 : Int).toNat = 1000000000000000000))
theorem max1 {n : Nat} {m : Sto} : dBI m .max2 [.int n, .int 1] = some (.int ((max n 1 : Nat) : Int)) := by
  show some (D.int (if (1 : Int) > n then 1 else n)) = _
  congr 2
  omega
theorem max2' {n : Nat} {m : Sto} : dBI m .max2 [.int n, .int 2] = some (.int ((max n 2 : Nat) : Int)) := by
  show some (D.int (if (2 : Int) > n then 2 else n)) = _
  congr 2
  omega
theorem draw_ok (k n : Nat) (m : Sto) (hn : n < 1073741824) (hm : Tape m) : Sat (fnSem pp (k + 1) 213 [.loc 0, .int n] m) fun d m' => ∃ r : Nat, r < max n 1 ∧ d = .int r ∧ Tape m' := by
  obtain ⟨ns, p, q, s, rfl⟩ := hm
  rw [fnSem_un (fi := fi213) rfl rfl]
  have h1 : ∀ m, dBI m .max2 [.int n, .int 1] = some (.int ((max n 1 : Nat) : Int)) := fun m => max1
  have h2 : ∀ m, dBI m .max2 [.int n, .int 2] = some (.int ((max n 2 : Nat) : Int)) := fun m => max2'
  obtain ⟨w, hw⟩ : ∃ w, w = max n 1 := ⟨_, rfl⟩
  obtain ⟨v, hv⟩ : ∃ v, v = max n 2 := ⟨_, rfl⟩
  rw [← hw] at h1 ⊢
  rw [← hv] at h2
  have hw0 : (0 : Int) < w := by omega
  have hv0 : (0 : Int) < v ∧ (v : Int) < 1073741824 := by omega
  have h3 : ∀ i, dBin .Mod (.int i) (.int w) = some (.int (i % w)) := fun i => b_mod hw0
  have h4 : ∀ i, dBin .FloorDiv (.int i) (.int v) = some (.int (i / v)) := fun i => b_div hv0
  have c1 : ∀ i, dBin .Mod (.int i) (.int 2147483647) = some (.int (i % 2147483647)) := fun i => b_mod (by decide)
  have c2 : ∀ i, dBin .Mod (.int i) (.int 2147483629) = some (.int (i % 2147483629)) := fun i => b_mod (by decide)
  have c3 : ∀ i, dBin .Mult (.int i) (.int 48271) = some (.int (i * 48271)) := fun i => mulC (by decide)
  have c4 : ∀ i, dBin .Mult (.int i) (.int 69621) = some (.int (i * 69621)) := fun i => mulC (by decide)
  have fin : ∀ (x : Int) (ns : List Int) (p : Nat) (q s : Int), ∃ r : Nat, r < w ∧ x % w = r ∧ Tape [.lst [.lst (ns.map .int), .int p, .int q, .int s]] := fun x ns p q s => by
    have a1 := Int.emod_nonneg x (show (w : Int) ≠ 0 by omega)
    have a2 := Int.emod_lt_of_pos x hw0
    exact ⟨(x % w).toNat, by omega, by omega, ns, p, q, s, rfl⟩
  by_cases hq : q = 0
  · subst hq
    by_cases hp : p < ns.length
    · simp [fi213, s_213, lo0, ix_loc, hp, pow18]
      by_cases hz : (if ns[p] < 0 then -ns[p] else ns[p]) < 1000000000000000000
      · simp [hz, c1, c2, c3, c4, h1, h3]
        exact fin _ ns (p + 1) 0 s
      · simp [hz, ix_loc, h1, h2, h3, h4]
        exact fin _ ns (p + 1) _ s
    · simp [fi213, s_213, lo0, ix_loc, hp, pow18, c1, c3]
      by_cases hz : (s * 48271 + p + 1) % 2147483647 < 1000000000000000000
      · simp [hz, c1, c2, c3, c4, h1, h3]
        exact fin _ ns (p + 1) 0 _
      · simp [hz, ix_loc, h1, h2, h3, h4]
        exact fin _ ns (p + 1) _ _
  · simp [fi213, s_213, lo0, ix_loc, hq, h1, h2, h3, h4]
    exact fin _ ns p _ s

theorem Sat.bind {α β : Type} {r : Res α} {f : α → Sto → Res β} {Q : α → Sto → Prop} {R : β → Sto → Prop} (h : Sat r Q) (hf : ∀ a m, Q a m → Sat (f a m) R) : Sat (r.bind f) R := by
  cases h with
  | ok h => exact hf _ _ h
/-- a loop: as long as nothing is returned, I holds -/
theorem forL_sat {α : Type} {tg : Tg} {body : Lo → Sto → Res Out} (enc : α → D) (I : Nat → Lo → Sto → Prop) (R : D → Sto → Prop) : ∀ (xs : List α) (i : Nat) (l : Lo) (m : Sto),
    (∀ j x l m, xs[j]? = some x → I (i + j) l m → Sat (liftO (tg.set (enc x) l) fun l' => body l' m) fun o m' => (∃ l', (o = .nx l' ∨ o = .ct l') ∧ I (i + j + 1) l' m') ∨ ∃ d, o = .rt d ∧ R d m') →
    I i l m → Sat (forL tg body (xs.map enc) l m) fun o m' => (∃ l', o = .nx l' ∧ I (i + xs.length) l' m') ∨ ∃ d, o = .rt d ∧ R d m'
  | [], i, l, m, _, h => .ok (.inl ⟨l, rfl, h⟩)
  | x :: xs, i, l, m, hb, h => by
    have h0 := hb 0 x l m rfl h
    show Sat (liftO (tg.set (enc x) l) fun l' => (body l' m).bind fun o m => again o m fun l m => forL tg body (xs.map enc) l m) _
    cases e : tg.set (enc x) l with
    | none => rw [e] at h0; exact h0.no.elim
    | some l1 =>
      rw [e] at h0
      show Sat ((body l1 m).bind _) _
      refine Sat.bind (show Sat (body l1 m) _ from h0) fun o m' ho => ?_
      rcases ho with ⟨l', ho, hI⟩ | ⟨d, rfl, hR⟩
      · have hrec := forL_sat enc I R xs (i + 1) l' m' (fun j y l m hj hI => by
          have := hb (j + 1) y l m (by rw [List.getElem?_cons_succ]; exact hj) (by rw [show i + (j + 1) = i + 1 + j by omega]; exact hI)
          rw [show i + (j + 1) + 1 = i + 1 + j + 1 by omega] at this
          exact this) hI
        rw [show i + 1 + xs.length = i + (x :: xs).length by rw [List.length_cons]; omega] at hrec
        rcases ho with rfl | rfl <;> exact hrec
      · exact .ok (.inr ⟨d, rfl, hR⟩)
theorem forL_sat0 {α : Type} {tg : Tg} {body : Lo → Sto → Res Out} (enc : α → D) (I : Nat → Lo → Sto → Prop) (R : D → Sto → Prop) (xs : List α) {l : Lo} {m : Sto}
    (hb : ∀ j x l m, xs[j]? = some x → I j l m → Sat (liftO (tg.set (enc x) l) fun l' => body l' m) fun o m' => (∃ l', (o = .nx l' ∨ o = .ct l') ∧ I (j + 1) l' m') ∨ ∃ d, o = .rt d ∧ R d m')
    (h : I 0 l m) : Sat (forL tg body (xs.map enc) l m) fun o m' => (∃ l', o = .nx l' ∧ I xs.length l' m') ∨ ∃ d, o = .rt d ∧ R d m' := by
  have := forL_sat enc I R xs 0 l m (fun j x l m h1 h2 => by
    have := hb j x l m h1 (by rw [Nat.zero_add] at h2; exact h2)
    rw [Nat.zero_add]
    exact this) h
  rw [Nat.zero_add] at this
  exact this
/-! ### the tape is made -/
section
variable {cal : Nat → List D → Sto → Res D} {l : Lo} {m : Sto} {es : List E} {md : Md}
def mkLoc (xs : List D) (m : Sto) : Res D := if xs.length ≤ sizeLine then .ok (.loc m.length) (m ++ [.lst xs]) else .bad
@[simp] theorem ev_mls : evM gg cal (.mls es) md l m = fin md ((evL gg cal es .p l m).bind mkLoc) := (rfl)
@[simp] theorem mkLoc4 {a b c d : D} : mkLoc [a, b, c, d] [] = .ok (.loc 0) [.lst [a, b, c, d]] := (if_pos (sl_ 4 (by decide)) : _)
end
theorem tape_ok (k : Nat) (ns : List Int) : Sat (fnSem pp (k + 1) 212 [.lst (ns.map .int)] []) fun d m' => d = .loc 0 ∧ Tape m' := by
  rw [fnSem_un (fi := fi212) rfl rfl]
  have c1 : ∀ i, dBin .Mod (.int i) (.int 2147483647) = some (.int (i % 2147483647)) := fun i => b_mod (by decide)
  have c3 : ∀ i, dBin .Mult (.int i) (.int 31) = some (.int (i * 31)) := fun i => mulC (by decide)
  have h := forL_fold (tg := .name 2) (body := evSs gg (fnSem pp k) [.asg (.name 1) (.bin .Mod (.bcall .int [(.bin .Add (.bin .Mult (.var 1) (.cst (.int 31))) (.bcall .abs [(.bcall .int [(.var 2)])]))]) (.cst (.int 2147483647)))])
    D.int (fun s : Int × Sl => [.val (.lst (ns.map .int)), .val (.int s.1), s.2]) (fun s x => ((s.1 * 31 + (if x < 0 then -x else x)) % 2147483647, .val (.int x))) (fun _ => True) ns (7, .no) [] trivial (fun x _ s _ => ⟨trivial, by simp [c1, c3]⟩)
  simp [fi212, s_212, lo0]
  rw [h]
  simp
  exact ⟨ns, 0, 0, _, rfl⟩
/-! ### words -/
@[irreducible] def isW (w : Nat) : Prop := w < 65536
theorem isW_of {w : Nat} (h : w < 65536) : isW w := by unfold isW; exact h
theorem fresh_ok (k n : Nat) (m : Sto) (hn : n ≤ 1000000) (hm : Tape m) : Sat (fnSem pp (k + 2) 214 [.loc 0, .int n] m) fun d m' => ∃ ws : List Nat, ws.length = n ∧ (∀ w ∈ ws, isW w) ∧ d = .tup (ws.map eN) ∧ Tape m' := by
  rw [fnSem_un (fi := fi214) rfl rfl]
  have h := forL_sat0 (tg := .name 3) (body := evSs gg (fnSem pp (k + 1)) [.ite (.cmp .Eq (.call 213 [(.var 0), (.cst (.int 4))] [] []) (.cst (.int 0))) [.meth .append (.var 2) [(.idx (.lst [(.cst (.int 0)), (.cst (.int 1)), (.cst (.int 32768)), (.cst (.int 65535))]) (.call 213 [(.var 0), (.cst (.int 4))] [] []))]] [.meth .append (.var 2) [(.call 213 [(.var 0), (.cst (.int 65536))] [] [])]]])
    (fun j : Nat => .int (j : Int)) (fun i l m => ∃ (ws : List Nat) (u : Sl), ws.length = i ∧ (∀ w ∈ ws, isW w) ∧ l = [.val (.loc 0), .val (.int n), .own (ws.map eN), u] ∧ Tape m) (fun _ _ => False) (List.range n) (l := [.val (.loc 0), .val (.int n), .own [], .no]) (m := m)
    (fun j x l m hj ⟨ws, u, h1, h2, h3, h4⟩ => by
      subst h3
      have hjn : j < n := by
        have := (List.getElem?_eq_some_iff.mp hj).1
        simpa using this
      have ha := fun (l : Lo) (m : Sto) es h => s_app (cal := fnSem pp (k + 1)) (l := l) (m := m) (es := es) (i := 2) (xs := ws.map eN) h
      have hb := fun (l : Lo) (m : Sto) d h => appR_ (l := l) (m := m) (d := d) (i := 2) (xs := ws.map eN) h (by simp; omega)
      obtain ⟨d1, m1, e1, r1, q1, rfl, T1⟩ := (draw_ok k 4 m (by decide) h4).ex
      obtain ⟨d2, m2, e2, r2, q2, rfl, T2⟩ := (draw_ok k 4 m1 (by decide) T1).ex
      obtain ⟨d3, m3, e3, r3, q3, rfl, T3⟩ := (draw_ok k 65536 m1 (by decide) T1).ex
      simp at e1 e2 e3
      by_cases hr : r1 = 0
      · subst hr
        have : ∃ w : Nat, w < 65536 ∧ ([D.int 0, D.int 1, D.int 32768, D.int 65535] : List D)[r2]? = some (.int w) := by
          have : r2 = 0 ∨ r2 = 1 ∨ r2 = 2 ∨ r2 = 3 := by omega
          rcases this with rfl | rfl | rfl | rfl
          · exact ⟨0, by decide, rfl⟩
          · exact ⟨1, by decide, rfl⟩
          · exact ⟨32768, by decide, rfl⟩
          · exact ⟨65535, by decide, rfl⟩
        obtain ⟨w, hw1, hw2⟩ := this
        simp [e1, ha, hb, e2, hw2]
        refine ⟨ws ++ [w], by simp [h1], fun z hz => ?_, by simp, T2⟩
        rcases List.mem_append.mp hz with hz | hz
        · exact h2 z hz
        · rw [List.mem_singleton.mp hz]; exact isW_of hw1
      · simp [e1, ha, hb, e3, hr]
        refine ⟨ws ++ [r3], by simp [h1], fun z hz => ?_, by simp, T3⟩
        rcases List.mem_append.mp hz with hz | hz
        · exact h2 z hz
        · rw [List.mem_singleton.mp hz]
          have : max 65536 1 = 65536 := rfl
          exact isW_of (by omega)) ⟨[], .no, rfl, fun _ h => (nomatch h), rfl, hm⟩
  simp [fi214, s_214, lo0, it_rg (show n ≤ 16777216 by omega)]
  refine Sat.bind (Sat.bind h (R := fun o m' => ∃ ws : List Nat, ws.length = n ∧ (∀ w ∈ ws, isW w) ∧ o = .rt (.tup (ws.map eN)) ∧ Tape m') ?_) ?_
  · intro o m' he
    rcases he with ⟨l', rfl, ws, u, h1, h2, rfl, h4⟩ | ⟨_, _, h⟩
    · simp
      rw [List.length_range] at h1
      exact ⟨ws, h1, h2, rfl, h4⟩
    · exact h.elim
  · rintro o m' ⟨ws, h1, h2, rfl, h4⟩
    exact .ok ⟨ws, h1, h2, rfl, h4⟩
end Ev

set_option Elab.async false
set_option linter.all false
set_option maxRecDepth 100000
set_option maxHeartbeats 400000
/-! Lw1: the laws' comparison, their own obtain. -/
namespace Ev
open PySem
section
variable {m : Sto} {xs : List D} {i : Int} {b : Bool} {s : Str}
@[simp] theorem ist_tt : dBI m (.isinst .tuple) [.tup xs] = some (.bl true) := (rfl)
@[simp] theorem ist_ti : dBI m (.isinst .tuple) [.int i] = some (.bl false) := (rfl)
@[simp] theorem ist_tb : dBI m (.isinst .tuple) [.bl b] = some (.bl false) := (rfl)
@[simp] theorem ist_ts : dBI m (.isinst .tuple) [.str s] = some (.bl false) := (rfl)
@[simp] theorem ist_tn : dBI m (.isinst .tuple) [.non] = some (.bl false) := (rfl)
@[simp] theorem ist_bi : dBI m (.isinst .bool) [.int i] = some (.bl false) := (rfl)
@[simp] theorem ist_bb : dBI m (.isinst .bool) [.bl b] = some (.bl true) := (rfl)
@[simp] theorem ist_bs : dBI m (.isinst .bool) [.str s] = some (.bl false) := (rfl)
@[simp] theorem ist_ii : dBI m (.isinst .int) [.int i] = some (.bl true) := (rfl)
@[simp] theorem ist_is : dBI m (.isinst .int) [.str s] = some (.bl false) := (rfl)
@[simp] theorem ist_ss : dBI m (.isinst .str) [.str s] = some (.bl true) := (rfl)
end
section
variable {cal : Nat → List D → Sto → Res D} {l : Lo} {m : Sto} {es : List E}
@[simp] theorem thenB_tt : thenB cal true es l (.bl true) m = evBo gg cal true es l m := (rfl)
@[simp] theorem thenB_tf : thenB cal true es l (.bl false) m = .ok (.bl false) m := (rfl)
@[simp] theorem thenB_ft : thenB cal false es l (.bl true) m = .ok (.bl true) m := (rfl)
@[simp] theorem thenB_ff : thenB cal false es l (.bl false) m = evBo gg cal false es l m := (rfl)
end
/-- plain data of this depth -/
def plainK : Nat → D → Bool
  | 0, _ => false
  | k + 1, .tup xs => xs.all (plainK k) && decide (xs.length ≤ 1000000)
  | _ + 1, .non => true
  | _ + 1, .bl _ => true
  | _ + 1, .int _ => true
  | _ + 1, .str _ => true
  | _ + 1, _ => false
theorem same_ok : ∀ (k : Nat) (d : D), plainK k d = true → ∀ (j : Nat) (m : Sto), fnSem pp (j + k) 215 [d, d] m = .ok (.bl true) m
  | 0, _, h, _, _ => by cases h
  | k + 1, d, h, j, m => by
    rw [show j + (k + 1) = (j + k) + 1 from rfl, fnSem_un (fi := fi215) rfl rfl]
    cases d with
    | non => simp [fi215, s_215, lo0]
    | bl b => simp [fi215, s_215, lo0]
    | int i => simp [fi215, s_215, lo0]
    | str s => simp [fi215, s_215, lo0]
    | tup xs =>
      have h : (xs.all (plainK k) && decide (xs.length ≤ 1000000)) = true := h
      rw [Bool.and_eq_true, List.all_eq_true, decide_eq_true_eq] at h
      obtain ⟨h1, h2⟩ := h
      have hf := forL_fold (tg := .name 2) (body := evSs gg (fnSem pp (j + k)) [.ite (.nt (.call 215 [(.idx (.var 0) (.var 2)), (.idx (.var 1) (.var 2))] [] [])) [.ret (.cst (.bl false))] []]) (fun i : Nat => .int (i : Int)) (fun u : Sl => [.val (.tup xs), .val (.tup xs), u]) (fun _ i => .val (.int (i : Nat))) (fun _ => True) (List.range xs.length) .no m trivial (fun i hi u _ => ⟨trivial, by
        have hi := List.mem_range.mp hi
        have := same_ok k xs[i] (h1 _ (List.getElem_mem hi)) j m
        simp [hi, this]⟩)
      simp [fi215, s_215, lo0, it_rg (show xs.length ≤ 16777216 by omega), hf]
    | _ => cases h
/-! ### the law's own obtain -/
section
variable {cal : Nat → List D → Sto → Res D} {l : Lo} {m : Sto} {o : E} {es : List E} {md : Md} {b : BI}
@[simp] theorem ev_mcl : evM gg cal (.mcl b o es) md l m = fin md ((evM gg cal o .b l m).bind fun x m => if mTy b x then (evL gg cal es .b l m).bind fun xs m => ofO (dBI m b (x :: xs)) m else .bad) := (rfl)
@[simp] theorem mTy_il {xs : List D} : mTy .index (.lst xs) = true := (rfl)
@[simp] theorem bi_index {xs : List D} {x : D} : dBI m .index [.lst xs, x] = dIndex x xs := (rfl)
end
theorem idx_nats (n : Nat) (zs : List Nat) : dIndex (.int n) (zs.map eN) = (zs.findIdx? (· == n)).map fun j => .int (j : Nat) := by
  unfold dIndex
  have hs : ((D.int (n : Int)).isScal && (zs.map eN).all D.isScal) = true := by
    rw [show (D.int (n : Int)).isScal = true from rfl, Bool.true_and]
    exact all_scal_int (fun z : Nat => (z : Int)) zs
  rw [if_pos hs, List.findIdx?_map]
  congr 2
  funext z
  show ((z : Int) == (n : Int)) = (z == n)
  exact beq_nat z n
theorem find_idx {lines : List CE} {l : Nat} {e : CE} (h : lines.find? (fun x => x.line == l) = some e) : ∃ i, (lines.map CE.line).findIdx? (· == l) = some i ∧ lines[i]? = some e := by
  induction lines with
  | nil => cases h
  | cons x xs ih =>
    by_cases hx : x.line = l
    · rw [List.find?_cons_of_pos (by simp [hx])] at h
      cases h
      exact ⟨0, by simp [List.findIdx?_cons, hx], rfl⟩
    · rw [List.find?_cons_of_neg (by simp [hx])] at h
      obtain ⟨i, h1, h2⟩ := ih h
      refine ⟨i + 1, ?_, by simpa using h2⟩
      rw [List.map_cons, List.findIdx?_cons, h1]
      simp [hx]
def obtainC (cfg : Cfg) (c : Cache) (core l : Nat) (ex : Bool) : Option Act := match ent1 c l with
    | some e => if ex && e.st == .sh then some (.request core l true) else none
    | none => if occupied cfg c l < cfg.ways then some (.request core l ex) else (c.lines.find? fun x => inSet cfg x.line l).map fun x => .evict core x.line
@[simp] def eHas (order : Nat) (cfg : Cfg) (rb sb : Int) : D := .tup [.str (K order), .int rb, .int sb, eN cfg.lw, eN cfg.sets, eN cfg.ways, eN cfg.reqs, .bl cfg.excl]
theorem occ_eq (cfg : Cfg) (c : Cache) (l : Nat) : ((c.lines.map CE.line ++ (c.req.filter fun x => !(c.lines.map CE.line).contains x.1).map (·.1)).filter fun x => inSet cfg x l).length = occupied cfg c l := by
  unfold occupied
  rw [List.filter_append, List.length_append]
  have e1 : (c.lines.map CE.line).filter (fun x => inSet cfg x l) = (c.lines.filter fun x => inSet cfg x.line l).map CE.line := by
    rw [List.filter_map]; rfl
  rw [e1]
  congr 1
  rw [List.filter_map, List.length_map, List.filter_filter]
  congr 1
  apply List.filter_congr
  intro x _
  show (inSet cfg x.1 l && !(c.lines.map CE.line).contains x.1) = (inSet cfg x.1 l && !((c.lines.filter fun x => inSet cfg x.line l).map CE.line).contains x.1)
  cases h : inSet cfg x.1 l with
  | false => rfl
  | true =>
    congr 2
    rw [← e1, Bool.eq_iff_iff, List.contains_iff_mem, List.contains_iff_mem, List.mem_filter]
    simp [h]
theorem obtained_ok (k order : Nat) (cfg : Cfg) (rb sb : Int) (c : Cache) (core l : Nat) (ex : Bool) (m : Sto) (h0 : 0 < cfg.sets) (hc : CSmall c) : fnSem pp (k + 1) 216 [eC c, .int core, .int l, .bl ex, eHas order cfg rb sb] m = .ok (eO eA (obtainC cfg c core l ex)) m := by
  rw [fnSem_un (fi := fi216) rfl rfl]
  have hm := fun a => modN (a := a) h0
  obtain ⟨P, hP⟩ : ∃ P, P = c.lines.map CE.line := ⟨_, rfl⟩
  have hPl : P.length ≤ 1000000 := by rw [hP, List.length_map]; exact hc.l
  have hPe : c.lines.map (fun x => D.int (x.line : Int)) = P.map eN := by rw [hP, List.map_map]; rfl
  simp [fi216, s_216, lo0]
  rw [lc_ok (zs := [.tup (c.lines.map eCE)]) c.lines eCE (fun x => some (eN x.line)) (by simp) (by simp) rfl (fun y _ => by simp) (by have := hc.l; omega) (by simp), List.filterMap_eq_map']
  simp [hPe]
  unfold obtainC
  cases e1 : ent1 c l with
  | some e =>
    obtain ⟨i, h1, h2⟩ := find_idx e1
    rw [← hP] at h1
    have hmem : l ∈ P := by
      obtain ⟨hi, h3, _⟩ := List.findIdx?_eq_some_iff_getElem.mp h1
      simp at h3
      rw [← h3]
      exact List.getElem_mem hi
    have h3 := idx_nats l P
    rw [h1] at h3
    obtain ⟨el, est, ew⟩ := e
    cases ex <;> cases est <;> simp [hmem, h3, h2]
  | none =>
    have hmem : ¬ l ∈ P := by
      rw [hP]
      intro h
      obtain ⟨x, hx, hx2⟩ := List.mem_map.mp h
      have := List.find?_eq_none.mp e1 x hx
      simp [hx2] at this
    simp [hmem]
    obtain ⟨Q, hQ⟩ : ∃ Q, Q = (c.req.filter fun x => !P.contains x.1).map (·.1) := ⟨_, rfl⟩
    have hQl : Q.length ≤ 1000000 := by rw [hQ, List.length_map]; exact Nat.le_trans (List.length_filter_le ..) hc.r
    rw [lc_ok (zs := [.tup (c.req.map eRq)]) c.req eRq (fun x => if !P.contains x.1 then some (eN x.1) else none) (by simp) (by simp) rfl (fun y _ => by
      by_cases hy : y.1 ∈ P <;> simp [hy]) (by have := hc.r; omega) (by simp), fmap_filter]
    have hQe : (c.req.filter fun x => !P.contains x.1).map (fun x => eN x.1) = Q.map eN := by rw [hQ, List.map_map]; rfl
    rw [hQe]
    have e2 : dBin .Add (.lst (P.map eN)) (.lst (Q.map eN)) = some (.lst ((P ++ Q).map eN)) := by
      rw [b_addL (by simp; omega), List.map_append]
    obtain ⟨W, hW⟩ : ∃ W, W = P ++ Q := ⟨_, rfl⟩
    rw [← hW] at e2
    simp [e2]
    rw [lc_ok (zs := [.lst (W.map eN)]) W eN (fun x => if inSet cfg x l then some (eN x) else none) (by simp) (by simp) rfl (fun y _ => by
      by_cases hy : y % cfg.sets = l % cfg.sets <;> simp [hm, hy, inSet]) (by rw [hW, List.length_append]; omega) (by simp), fmap_filter]
    have hocc : (W.filter fun x => inSet cfg x l).length = occupied cfg c l := by
      rw [hW, hQ, hP]
      exact occ_eq cfg c l
    simp [hocc]
    by_cases c5 : occupied cfg c l < cfg.ways
    · simp [c5]
    · simp [c5]
      rw [lc_ok (zs := [.lst (P.map eN)]) P eN (fun x => if inSet cfg x l then some (eN x) else none) (by simp) (by simp) rfl (fun y _ => by
        by_cases hy : y % cfg.sets = l % cfg.sets <;> simp [hm, hy, inSet]) (by omega) (by simp), fmap_filter]
      have hf : (P.filter fun x => inSet cfg x l) = (c.lines.filter fun x => inSet cfg x.line l).map CE.line := by
        rw [hP, List.filter_map]; rfl
      cases e6 : c.lines.find? (fun x => inSet cfg x.line l) with
      | none =>
        have : (c.lines.filter fun x => inSet cfg x.line l) = [] := by
          rw [List.filter_eq_nil_iff]
          exact fun x hx => List.find?_eq_none.mp e6 x hx
        rw [this] at hf
        simp [hf]
      | some x =>
        have : ∃ r, (c.lines.filter fun x => inSet cfg x.line l) = x :: r := by
          rw [← List.head?_filter] at e6
          cases z : c.lines.filter fun x => inSet cfg x.line l with
          | nil => rw [z] at e6; cases e6
          | cons a r => rw [z] at e6; cases e6; exact ⟨r, rfl⟩
        obtain ⟨r, hr⟩ := this
        rw [hr] at hf
        simp [hf]
end Ev

set_option Elab.async false
set_option linter.all false
set_option maxRecDepth 100000
set_option maxHeartbeats 1000000
/-! Lw75: law k75 evaluates to True. -/
namespace Ev
open PySem
section
variable {cal : Nat → List D → Sto → Res D} {l : Lo} {m : Sto} {es fs : List E} {md : Md} {xs ys : List D}
def mk2 (c : Nat) (kp : List Nat) (xs ys : List D) (m : Sto) : Res D := match (gg.cdf[c]?).bind fun df => argVec df xs kp ys with
    | some vs => .ok (.obj c vs) m
    | none => .bad
def mk1 (cal : Nat → List D → Sto → Res D) (c : Nat) (kp : List Nat) (fs : List E) (l : Lo) (xs : List D) (m : Sto) : Res D := (evL gg cal fs .p l m).bind (mk2 c kp xs)
@[simp] theorem ev_mk {c : Nat} {kp : List Nat} : evM gg cal (.mk c es kp fs) md l m = fin md ((evL gg cal es .p l m).bind (mk1 cal c kp fs l)) := (rfl)
@[simp] theorem mk1_ {c : Nat} {kp : List Nat} : mk1 cal c kp fs l xs m = (evL gg cal fs .p l m).bind (mk2 c kp xs) := (rfl)
theorem mk2_cfg5 {o a b c d e : D} : mk2 0 [3, 4, 5, 6, 7] [o] [a, b, c, d, e] m = .ok (.obj 0 [o, .int 4, .int 2, a, b, c, d, e]) m := by
  unfold mk2
  have : ((gg.cdf[0]?).bind fun df => argVec df [o] [3, 4, 5, 6, 7] [a, b, c, d, e]) = some [o, .int 4, .int 2, a, b, c, d, e] := rfl
  rw [this]
end
theorem config_ok (k order : Nat) (cfg : Cfg) (rb sb : Int) (m : Sto) (hm : Tape m) (h4 : cfg.rb = 4) (h5 : cfg.sb = 2) : Sat (fnSem pp (k + 2) 217 [.loc 0, eHas order cfg rb sb] m) fun d m' => ∃ o, d = eCfg { cfg with order := o } ∧ Tape m' := by
  rw [fnSem_un (fi := fi217) rfl rfl]
  obtain ⟨d1, m1, e1, r1, q1, rfl, T1⟩ := (draw_ok k 4 m (by decide) hm).ex
  simp at e1
  have : ∃ o, ([D.str (K 0), D.str (K 1), D.str (K 163), D.str (K 40)] : List D)[r1]? = some (.str (K o)) := by
    have : r1 = 0 ∨ r1 = 1 ∨ r1 = 2 ∨ r1 = 3 := by omega
    rcases this with rfl | rfl | rfl | rfl
    · exact ⟨0, rfl⟩
    · exact ⟨1, rfl⟩
    · exact ⟨163, rfl⟩
    · exact ⟨40, rfl⟩
  obtain ⟨o, ho⟩ := this
  simp [fi217, s_217, lo0, e1, ho, mk2_cfg5]
  exact ⟨⟨o, by unfold eCfg; simp [h4, h5]⟩, T1⟩
theorem action_ok (k nl : Nat) (s : Sys) (m : Sto) (hm : Tape m) (hn : 0 < s.cs.length) (S : SSmall s) (hnl : nl ≤ 1000000) : Sat (fnSem pp (k + 2) 218 [.loc 0, eS s, .int nl] m) fun d m' => ∃ a, isSys a = true ∧ d = eA a ∧ Tape m' := by
  rw [fnSem_un (fi := fi218) rfl rfl]
  obtain ⟨d1, m1, e1, r1, q1, rfl, T1⟩ := (draw_ok k 16 m (by decide) hm).ex
  obtain ⟨d2, m2, e2, r2, q2, rfl, T2⟩ := (draw_ok k s.cs.length m1 (by have := S.cl; omega) T1).ex
  have q2 : r2 < s.cs.length := by omega
  obtain ⟨c, hc⟩ : ∃ c, c = s.cs[r2] := ⟨_, rfl⟩
  have hcm : c ∈ s.cs := by rw [hc]; exact List.getElem_mem q2
  have hcl := (S.c c hcm).l
  obtain ⟨d3, m3, e3, r3, q3, rfl, T3⟩ := (draw_ok k s.net.length m2 (by have := S.n; omega) T2).ex
  obtain ⟨d4, m4, e4, r4, q4, rfl, T4⟩ := (draw_ok k c.lines.length m2 (by omega) T2).ex
  obtain ⟨d5, m5, e5, r5, q5, rfl, T5⟩ := (draw_ok k nl m2 (by omega) T2).ex
  obtain ⟨d6, m6, e6, r6, q6, rfl, T6⟩ := (draw_ok k 2 m5 (by decide) T5).ex
  simp at e1 e2 e3 e4 e5 e6
  simp [fi218, s_218, lo0, e1, e2, q2, ← hc]
  have fin3 : Sat (Res.ok (D.tup [.str (K 50), .int r2, .int r5, .bl (decide ((r6 : Int) = 1))]) m6) fun d m' => ∃ a, isSys a = true ∧ d = eA a ∧ Tape m' := .ok ⟨.request r2 r5 (decide ((r6 : Int) = 1)), rfl, rfl, T6⟩
  have fin1 : Sat (Res.ok (D.tup [.str (K 49), .int r3]) m3) fun d m' => ∃ a, isSys a = true ∧ d = eA a ∧ Tape m' := .ok ⟨.deliver r3, rfl, rfl, T3⟩
  have evi : c.lines ≠ [] → ∃ e, c.lines[r4]? = some e ∧ c.lines.isEmpty = false := fun h => by
    have : r4 < c.lines.length := by
      have : 0 < c.lines.length := List.length_pos_iff.mpr h
      omega
    exact ⟨_, List.getElem?_eq_getElem this, by cases z : c.lines <;> simp_all⟩
  by_cases h8 : r1 < 8
  · have h8' : (r1 : Int) < 8 := by omega
    have h10' : (r1 : Int) < 10 := by omega
    by_cases hne : s.net = []
    · by_cases hl : c.lines = []
      · simp [h8', h10', hne, hl, e5, e6]
        exact Sat_ok.mp fin3
      · obtain ⟨e, he1, he2⟩ := evi hl
        simp [h8', h10', hne, he1, he2, e4]
        exact ⟨.evict r2 e.line, rfl, rfl, T4⟩
    · have hne' : s.net.isEmpty = false := by cases z : s.net <;> simp_all
      simp [h8', hne', e3]
      exact Sat_ok.mp fin1
  · have h8' : ¬ (r1 : Int) < 8 := by omega
    by_cases h10 : r1 < 10
    · have h10' : (r1 : Int) < 10 := by omega
      by_cases hl : c.lines = []
      · simp [h8', h10', hl, e5, e6]
        exact Sat_ok.mp fin3
      · obtain ⟨e, he1, he2⟩ := evi hl
        simp [h8', h10', he1, he2, e4]
        exact ⟨.evict r2 e.line, rfl, rfl, T4⟩
    · have h10' : ¬ (r1 : Int) < 10 := by omega
      simp [h8', h10', e5, e6]
      exact Sat_ok.mp fin3
theorem pick {xs : List D} {r n : Nat} (P : D → Prop) (hr : r < n) (hn : n = xs.length) (h : ∀ d ∈ xs, P d) : ∃ d, xs[r]? = some d ∧ P d := by
  subst hn
  exact ⟨xs[r], List.getElem?_eq_getElem hr, h _ (List.getElem_mem hr)⟩
theorem nLines_le {n w : Nat} (hw : 0 < w) : nLines n w ≤ n := by
  unfold nLines
  have : (n + w - 1) / w < n + 1 := by
    rw [Nat.div_lt_iff_lt_mul hw, Nat.add_mul, Nat.one_mul]
    have : n ≤ n * w := Nat.le_mul_of_pos_right _ hw
    omega
  omega
theorem rep0 {n : Nat} (h : n ≤ 1000) : dBin .Mult (.tup [.int 0]) (.int n) = some (.tup (List.replicate n (.int 0))) := by
  have h1 : (-1000 : Int) ≤ (n : Int) ∧ (n : Int) ≤ 1000 ∧ ([D.int 0] : List D).length ≤ 1000 := ⟨by omega, by omega, by simp⟩
  refine (if_pos (e := none) h1).trans ?_
  rw [Int.toNat_natCast]
  congr 2
  induction n with
  | zero => rfl
  | succ n ih =>
    rw [List.replicate_succ, List.flatten_cons, ih (by omega) ⟨by omega, by omega, by simp⟩]
    rfl
theorem law75 (k : Nat) (ns : List Int) : Sat (fnSem pp (k + 9) 219 [.lst (ns.map .int)] []) fun d _ => d = .bl true := by
  rw [fnSem_un (fi := fi219) rfl rfl]
  obtain ⟨d0, m0, e0, rfl, T0⟩ := (tape_ok (k + 7) ns).ex
  obtain ⟨d1, m1, e1, r1, q1, rfl, T1⟩ := (draw_ok (k + 7) 6 m0 (by decide) T0).ex
  obtain ⟨d2, m2, e2, r2, q2, rfl, T2⟩ := (draw_ok (k + 7) 4 m1 (by decide) T1).ex
  obtain ⟨d3, m3, e3, r3, q3, rfl, T3⟩ := (draw_ok (k + 7) 16 m2 (by decide) T2).ex
  obtain ⟨d4, m4, e4, r4, q4, rfl, T4⟩ := (draw_ok (k + 7) 2 m3 (by decide) T3).ex
  obtain ⟨d5, m5, e5, r5, q5, rfl, T5⟩ := (draw_ok (k + 7) 16 m4 (by decide) T4).ex
  obtain ⟨d6, m6, e6, r6, q6, rfl, T6⟩ := (draw_ok (k + 7) 4 m5 (by decide) T5).ex
  obtain ⟨d7, m7, e7, r7, q7, rfl, T7⟩ := (draw_ok (k + 7) 3 m6 (by decide) T6).ex
  obtain ⟨d8, m8, e8, r8, q8, rfl, T8⟩ := (draw_ok (k + 7) 2 m7 (by decide) T7).ex
  obtain ⟨d9, m9, e9, r9, q9, rfl, T9⟩ := (draw_ok (k + 7) 2 m8 (by decide) T8).ex
  obtain ⟨d10, m10, e10, r10, q10, rfl, T10⟩ := (draw_ok (k + 7) 2 m9 (by decide) T9).ex
  simp at e1 e2 e3 e4 e5 e6 e7 e8 e9 e10
  -- what was drawn
  obtain ⟨x1, p1, nc, hnc, rfl⟩ := pick (xs := [.int 1, .int 2, .int 2, .int 3, .int 3, .int 4]) (fun d => ∃ n : Nat, (1 ≤ n ∧ n ≤ 4) ∧ d = .int n) q1 rfl (by
    simp; exact ⟨⟨1, by decide, rfl⟩, ⟨2, by decide, rfl⟩, ⟨3, by decide, rfl⟩, ⟨4, by decide, rfl⟩⟩)
  obtain ⟨x4, p4, sz, hsz, rfl⟩ := pick (xs := [.int (r2 : Int), .int (r3 : Int)]) (fun d => ∃ n : Nat, n ≤ 15 ∧ d = .int n) q4 rfl (by
    simp; omega)
  obtain ⟨x6, p6, lw, hlw, rfl⟩ := pick (xs := [.int 1, .int 1, .int 2, .int (1 + (r5 : Int))]) (fun d => ∃ n : Nat, (1 ≤ n ∧ n ≤ 16) ∧ d = .int n) q6 rfl (by
    simp; exact ⟨⟨1, by decide, rfl⟩, ⟨2, by decide, rfl⟩, ⟨1 + r5, by omega, by simp⟩⟩)
  obtain ⟨x7, p7, wy, hwy, rfl⟩ := pick (xs := [.int 1, .int 2, .int 4]) (fun d => ∃ n : Nat, n ≤ 4 ∧ d = .int n) q7 rfl (by
    simp; exact ⟨⟨1, by decide, rfl⟩, ⟨2, by decide, rfl⟩, ⟨4, by decide, rfl⟩⟩)
  obtain ⟨cfg, hcfg⟩ : ∃ c : Cfg, c = ⟨0, 4, 2, lw, 1 + r9, wy, 1 + r10, decide ((r8 : Int) = 1)⟩ := ⟨_, rfl⟩
  have h11a : cfg.rb = 4 := by rw [hcfg]
  have h11b : cfg.sb = 2 := by rw [hcfg]
  have h11 := config_ok (k + 6) 64 cfg 0 0 m10 T10 h11a h11b
  have h11' := h11.ex
  clear h11
  obtain ⟨dc, h11'⟩ := h11'
  obtain ⟨m11, e11, h11'⟩ := h11'
  obtain ⟨o, rfl, T11⟩ := h11'
  obtain ⟨dw, m12, e12, ws, hws, _, rfl, T12⟩ := (fresh_ok (k + 6) (1 + sz) m11 (by omega) T11).ex
  obtain ⟨cg, hcg⟩ : ∃ c : Cfg, c = { cfg with order := o } := ⟨_, rfl⟩
  have hg1 : cg.lw = lw := by rw [hcg, hcfg]
  have hg2 : cg.sets = 1 + r9 := by rw [hcg, hcfg]
  rw [← hcg] at e11
  obtain ⟨nl, hnl⟩ : ∃ nl, nl = nLines ws.length cg.lw := ⟨_, rfl⟩
  have e13 : dBin .FloorDiv (.int (1 + (sz : Int) + (lw : Int) - 1)) (.int lw) = some (.int nl) := by
    have := subDivN (n := ws.length) (w := lw) (by omega) (by omega)
    rw [hws] at this
    rw [hnl, hws, hg1]
    simp at this
    exact this
  have hnl2 : nl ≤ 16 := by
    have := nLines_le (n := ws.length) (w := cg.lw) (by omega)
    omega
  have e14 := start_machine_ok (k + 5) cg (.tup [.tup [.str (K 38)]]) (List.replicate nc (.int 0)) ws m12 (by omega) (by omega) (by simp; omega) (by omega)
  simp [hcfg] at e11
  simp at e12 e14
  simp [fi219, s_219, lo0, e0, e1, p1, e2, e3, e4, p4, e5, e6, p6, e7, p7, e8, e9, e10, e11, e13, rep0 (show nc ≤ 1000 by omega), e12, e14]
  -- the machine's run
  obtain ⟨d15, m15, e15, r15, q15, rfl, T15⟩ := (draw_ok (k + 7) 46 m12 (by decide) T12).ex
  simp at e15
  have q15 : r15 < 46 := by omega
  simp [e15, it_rg (show r15 ≤ 16777216 by omega)]
  obtain ⟨pl, hpl⟩ : ∃ pl, pl = List.replicate nc (startP (.int 0)) := ⟨_, rfl⟩
  obtain ⟨v0, hv0⟩ : ∃ v : D, v = .lst (ns.map .int) := ⟨_, rfl⟩
  obtain ⟨v7, hv7⟩ : ∃ v : D, v = .tup [.str (K 64), .int 0, .int 0, .int lw, .int (1 + (r9 : Int)), .int wy, .int (1 + (r10 : Int)), .bl (decide ((r8 : Int) = 1))] := ⟨_, rfl⟩
  obtain ⟨v10, hv10⟩ : ∃ v : D, v = .tup [.tup [.tup [.str (K 38)]], .tup (List.replicate nc (.int 0)), .tup (ws.map eN)] := ⟨_, rfl⟩
  obtain ⟨ch, hch⟩ : ∃ v : D, v = .tup (List.replicate nc (.tup [])) := ⟨_, rfl⟩
  rw [← hpl, ← hv0, ← hv7, ← hv10, ← hch]
  have hkeep : ∀ p ∈ pl, Keeps cg (k + 1 + 6) p := fun p hp => by
    rw [hpl] at hp
    rw [(List.mem_replicate.mp hp).2]
    exact startP_keeps cg (k + 6) _
  have hpll : pl.length = nc := by rw [hpl]; simp
  have loop1 := forL_sat0 (tg := .name 12) (body := evSs gg (fnSem pp (k + 8)) [.asg (.name 13) (.call 80 [(.var 10), (.var 8), (.var 11), (.call 218 [(.var 1), (.idx (.var 11) (.cst (.int 2))), (.var 9)] [] [])] [] []), .ite (.cmp .IsNot (.var 13) (.cst (.non))) [.asg (.name 11) (.var 13)] []])
    (fun j : Nat => .int (j : Int))
    (fun i l m => ∃ (t : Int) (s : Sys) (u12 u13 : Sl), l = [.val v0, .val (.loc 0), .val (.int nc), .val (.int (1 + (sz : Int))), .val (.int lw), .val (.int wy), .val (.bl (decide ((r8 : Int) = 1))), .val v7, .val (eCfg cg), .val (.int nl), .val v10, .val (.tup [.int t, .tup pl, eS s, ch, .tup []]), u12, u13, .no, .no, .no, .no] ∧ GInv cg nc nl ws.length s ∧ Bd i nc s ∧ Tape m)
    (fun _ _ => False) (List.range r15)
    (l := [.val v0, .val (.loc 0), .val (.int nc), .val (.int (1 + (sz : Int))), .val (.int lw), .val (.int wy), .val (.bl (decide ((r8 : Int) = 1))), .val v7, .val (eCfg cg), .val (.int nl), .val v10, .val (.tup [.int 0, .tup pl, eS (startSys cg nc ws), ch, .tup []]), .no, .no, .no, .no, .no, .no]) (m := m15)
    (fun j x l m hj hI => by
      obtain ⟨t, s, u12, u13, rfl, G, B, T⟩ := hI
      have hj2 : j < r15 := by
        have := (List.getElem?_eq_some_iff.mp hj).1
        simpa using this
      have S := B.small G (by omega) (by omega) (by omega) (by omega) (by omega)
      obtain ⟨da, ma, ea, a, ha, rfl, Ta⟩ := (action_ok (k + 6) nl s m T (by rw [G.cl]; omega) S (by omega)).ex
      have eb := after_ok (k + 1) cg v10 ch (.tup []) pl t s a ma (by omega) (by omega) S G.netOk ha hkeep (by rw [hpll, G.cl])
      unfold stepM at eb
      simp at ea eb
      cases en : nextSys cg s a with
      | none =>
        rw [en] at eb
        simp [ea, eb]
        exact ⟨t, s, ⟨rfl, rfl, rfl, rfl, rfl⟩, G, B.mono (by omega), Ta⟩
      | some s' =>
        rw [en] at eb
        simp at eb
        simp [ea, eb]
        exact ⟨t + 1, s', ⟨rfl, rfl, rfl, rfl, rfl⟩, G.step en, B.step G en, Ta⟩)
    ⟨0, _, .no, .no, rfl, hnl ▸ GInv.start, Bd.start, T15⟩
  simp at loop1
  refine Sat.bind (Sat.bind loop1 (R := fun o _ => o = .rt (.bl true)) ?_) ?_
  case refine_2 =>
    rintro o m' rfl
    exact .ok rfl
  rintro o m' ⟨l', rfl, t, s, ⟨u, v, rfl⟩, G, B, T⟩
  have S := B.small G (by omega) (by omega) (by omega) (by omega) (by omega)
  have hc7 : ∀ (c : Nat) (hc : c < s.cs.length) (l : Nat) (ex : Bool), fnSem pp (k + 8) 216 [eC s.cs[c], .int c, .int l, .bl ex, v7] m' = .ok (eO eA (obtainC cg s.cs[c] c l ex)) m' := fun c hc l ex => by
    have := obtained_ok (k + 7) 64 cg 0 0 s.cs[c] c l ex m' (by omega) (S.c _ (List.getElem_mem hc))
    rw [hv7, ← this, hcg, hcfg]
    simp
  have hc8 : ∀ (c : Nat) (hc : c < s.cs.length) (l : Nat) (ex : Bool), fnSem pp (k + 8) 84 [eCfg cg, .tup [.int t, .tup pl, eS s, ch, .tup []], .int c, .int l, .bl ex] m' = .ok (eO eA (obtainC cg s.cs[c] c l ex)) m' := fun c hc l ex => by
    have := obtain_ok (k + 6) cg (.int t) (.tup pl) ch (.tup []) s c l ex m' (by omega) hc (S.c _ (List.getElem_mem hc))
    rw [this]
    unfold obtainA
    rw [List.getElem?_eq_getElem hc]
    rfl
  have hpk : ∀ a : Option Act, plainK 2 (eO eA a) = true := fun a => by
    cases a with
    | none => rfl
    | some a => cases a <;> simp [plainK] <;> (rename_i s v; cases s <;> cases v <;> simp [plainK])
  have hc9 : ∀ a : Option Act, fnSem pp (k + 8) 215 [eO eA a, eO eA a] m' = .ok (.bl true) m' := fun a => same_ok 2 _ (hpk a) (k + 6) m'
  have in3 : ∀ (c : Nat) (hc : c < s.cs.length) (l : Nat) (u16 u17 : Sl), _ := fun c hc l u16 u17 => forL_fold (tg := .name 16) (body := evSs gg (fnSem pp (k + 8)) [.asg (.name 17) (.call 216 [(.idx (.idx (.idx (.var 11) (.cst (.int 2))) (.cst (.int 0))) (.var 14)), (.var 14), (.var 15), (.var 16), (.var 7)] [] []), .ite (.nt (.call 215 [(.call 84 [(.var 8), (.var 11), (.var 14), (.var 15), (.var 16)] [] []), (.var 17)] [] [])) [.ret (.cst (.bl false))] []])
    D.bl (fun w : Sl × Sl => [.val v0, .val (.loc 0), .val (.int nc), .val (.int (1 + (sz : Int))), .val (.int lw), .val (.int wy), .val (.bl (decide ((r8 : Int) = 1))), .val v7, .val (eCfg cg), .val (.int nl), .val v10, .val (.tup [.int t, .tup pl, eS s, ch, .tup []]), u, v, .val (.int c), .val (.int l), w.1, w.2]) (fun w ex => (.val (.bl ex), .val (eO eA (obtainC cg s.cs[c] c l ex)))) (fun _ => True) [false, true] (u16, u17) m' trivial (fun ex _ w _ => ⟨trivial, by
      have q7 := hc7 c hc l ex
      have q8 := hc8 c hc l ex
      have q9 := hc9 (obtainC cg s.cs[c] c l ex)
      simp at q7 q8
      simp [hc, q7, q8, q9]⟩)
  simp at in3
  have in2 : ∀ (c : Nat) (hc : c < s.cs.length) (u15 u16 u17 : Sl), _ := fun c hc u15 u16 u17 => forL_fold (tg := .name 15) (body := evSs gg (fnSem pp (k + 8)) [.for (.name 16) .seq [(.lst [(.cst (.bl false)), (.cst (.bl true))])] [.asg (.name 17) (.call 216 [(.idx (.idx (.idx (.var 11) (.cst (.int 2))) (.cst (.int 0))) (.var 14)), (.var 14), (.var 15), (.var 16), (.var 7)] [] []), .ite (.nt (.call 215 [(.call 84 [(.var 8), (.var 11), (.var 14), (.var 15), (.var 16)] [] []), (.var 17)] [] [])) [.ret (.cst (.bl false))] []]])
    (fun j : Nat => .int (j : Int)) (fun w : Sl × Sl × Sl => [.val v0, .val (.loc 0), .val (.int nc), .val (.int (1 + (sz : Int))), .val (.int lw), .val (.int wy), .val (.bl (decide ((r8 : Int) = 1))), .val v7, .val (eCfg cg), .val (.int nl), .val v10, .val (.tup [.int t, .tup pl, eS s, ch, .tup []]), u, v, .val (.int c), w.1, w.2.1, w.2.2]) (fun w l => (.val (.int (l : Nat)), .val (.bl true), .val (eO eA (obtainC cg s.cs[c] c l true)))) (fun _ => True) (List.range nl) (u15, u16, u17) m' trivial (fun l _ w _ => ⟨trivial, by
      have := in3 c hc l w.2.1 w.2.2
      simp [this]⟩)
  simp at in2
  have in1 := forL_fold (tg := .name 14) (body := evSs gg (fnSem pp (k + 8)) [.for (.name 15) .range [(.var 9)] [.for (.name 16) .seq [(.lst [(.cst (.bl false)), (.cst (.bl true))])] [.asg (.name 17) (.call 216 [(.idx (.idx (.idx (.var 11) (.cst (.int 2))) (.cst (.int 0))) (.var 14)), (.var 14), (.var 15), (.var 16), (.var 7)] [] []), .ite (.nt (.call 215 [(.call 84 [(.var 8), (.var 11), (.var 14), (.var 15), (.var 16)] [] []), (.var 17)] [] [])) [.ret (.cst (.bl false))] []]]])
    (fun j : Nat => .int (j : Int)) (fun w : Sl × Sl × Sl × Sl => [.val v0, .val (.loc 0), .val (.int nc), .val (.int (1 + (sz : Int))), .val (.int lw), .val (.int wy), .val (.bl (decide ((r8 : Int) = 1))), .val v7, .val (eCfg cg), .val (.int nl), .val v10, .val (.tup [.int t, .tup pl, eS s, ch, .tup []]), u, v, w.1, w.2.1, w.2.2.1, w.2.2.2]) (fun w c => (.val (.int (c : Nat)), (List.range nl).foldl (fun (w : Sl × Sl × Sl) l => (.val (.int (l : Nat)), .val (.bl true), .val (eO eA (obtainC cg (s.cs.getD c ⟨[], [], []⟩) c l true)))) (w.2.1, w.2.2.1, w.2.2.2))) (fun _ => True) (List.range nc) (.no, .no, .no, .no) m' trivial (fun c hc w _ => ⟨trivial, by
      have hc : c < s.cs.length := by rw [G.cl]; exact List.mem_range.mp hc
      have := in2 c hc w.2.1 w.2.2.1 w.2.2.2
      simp [it_rg (show nl ≤ 16777216 by omega), this, hc]⟩)
  have hx := in1
  simp at hx
  simp [it_rg (show nc ≤ 16777216 by omega), hx]
end Ev

set_option Elab.async false
set_option linter.all false
set_option maxRecDepth 100000
set_option maxHeartbeats 0
namespace K75
open PySem PySem.W PySem.Calls PyProof.Rows
theorem law_in : e88 ∈ ents := by
  unfold ents
  repeat (first | exact .head _ | apply List.Mem.tail)
theorem holds_all : PySem.Challenge.rw_litmuscore_k75_obtain.Holds := by
  have hsem : ∀ ns : List Int, ns.length ≤ 63 → ∃ m', Ev.fnSem Ev.pp (200 + 1) e88.f [.lst (ns.map .int)] [] = .ok (.bl true) m' := fun ns _ => by
    obtain ⟨d, m, e, rfl⟩ := (Ev.law75 192 ns).ex
    exact ⟨m, e⟩
  w_on; o_law
  refine HandSHeadRun.head_any (r := OpenLaw.row PySem.Challenge.rw_litmuscore_k75_obtain) (q := view (OpenLaw.row PySem.Challenge.rw_litmuscore_k75_obtain).prog [120]) (H := hk) (ob := ob) (M := 5000) (loose := loose) (d := HandSHeadRun.topDef (OpenLaw.row PySem.Challenge.rw_litmuscore_k75_obtain).prog 120) (kwd := []) ob_eq
    (by kernel_rfl) (fun s => by kernel_rfl) run (by kernel_rfl) (by kernel_rfl) (by kernel_rfl) (by rfl) (by first | assumption | decide +kernel) (by decide +kernel) ⟨rfl, rfl, rfl, rfl, rfl, by decide +kernel⟩ ?hw ?hc
  case hw => w_witness2
  case hc =>
    refine L2.walk_ofE (l := PySem.Challenge.rw_litmuscore_k75_obtain) (n := 63) (k := 203) (x := "_law_script") (CX := Ev.CXn) rfl (by decide) (by kernel_rfl) ⟨rfl, by decide, by decide⟩ ?F (fun _ _ _ _ z => z)
    intro w mg fl h Y G hmg0
    have hmg : mg e88.x = some (.ref fl) := by
      have e : (HandSHeadRun.topDef (OpenLaw.row PySem.Challenge.rw_litmuscore_k75_obtain).prog 120).name = e88.x := by kernel_rfl
      rw [← e]
      exact hmg0
    exact Ev.law_F (l := PySem.Challenge.rw_litmuscore_k75_obtain) (k := 200) (tb := tb) (pp := Ev.pp) (cs := csN) (fa := fa) (fn := fn) (ca := ca) (ents := ents) (le := e88) rfl law_in (fun w K mg base KB GB c => fix KB GB c) rfl ent_all fn_in glo_in hsem w mg fl h ⟨KL w, Y, says w⟩ G hmg
end K75
theorem PySem.Challenge.cw_litmuscore_k75_obtain_holds : PySem.Challenge.rw_litmuscore_k75_obtain.Holds := by
  exact K75.holds_all
