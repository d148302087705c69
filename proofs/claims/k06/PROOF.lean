import PyProof.Rows.All
import Wide.All
import OpenK.AllK
import Wide.FinOn
import HandS.ForMost
import HandS.ForExc
import HandS.Style
import HandS.IsInst
import HandS.HeadWalk
import HandS.HeadHook2
import HandS.TryMany
import HandS.ExcInit
import HandS.Head2
import HandS.Head3
import HandS.EndTab
import HandS.EndBits
import HandS.EndOwn
import HandS.Defaults
import HandS.MakeKw
import HandS.Deep
import PySem.Challenge.RW_allalong_k06_whole_settled_and_swapped
set_option Elab.async false
set_option linter.all false
set_option maxRecDepth 100000
/-! GI.Syn: ghost values, the inner language, its interpreter. -/
namespace GI
open PySem PySem.Spec PyProof.Rows L2

/-- a ghost value: what cannot change is a tree, a thing with identity is a place of the ghost heap -/
inductive GV where
  | non | bl (b : Bool) | int (i : Int) | str (x : Str)
  | lst (xs : List GV) | tup (xs : List GV)
  | scr (ns : List Int)
  | dct (kvs : List (GV × GV))
  | obj (c : Nat) (fs : List (String × GV))
  | exc (c : Nat) (fs : List (String × GV))
  | ref (a : Nat)
  | unk
/-- what stands at a place, or is owned by a slot -/
inductive GO where
  | lst (xs : List GV) | dct (kvs : List (GV × GV))
  | ins (c : Nat) (fs : List (String × GV))
  | gone
inductive Sl where
  | no | val (v : GV) | own (o : GO)
/-- an expression's value: a ghost value, a slot's own container, a container just made -/
inductive EV where
  | g (v : GV) | slot (i : Nat) | new (o : GO)
structure GS where
  σ : List Sl
  h : List GO
inductive R (α : Type) where
  | ok (a : α) (s : GS) | exc (c : Nat) (fs : List (String × GV)) (s : GS) | bad
inductive RF where
  | ok (v : GV) (h : List GO) | exc (c : Nat) (fs : List (String × GV)) (h : List GO) | bad
inductive Fl where
  | nx | bk | ct | rt (v : GV)

def R.bind {α β : Type} (x : R α) (f : α → GS → R β) : R β := match x with
  | .ok a s => f a s
  | .exc c fs s => .exc c fs s
  | .bad => .bad
@[simp] theorem bind_ok {α β : Type} {a : α} {s : GS} {f : α → GS → R β} : (R.ok a s).bind f = f a s := (rfl)
@[simp] theorem bind_exc {α β : Type} {c : Nat} {fs : List (String × GV)} {s : GS} {f : α → GS → R β} : (R.exc c fs s : R α).bind f = .exc c fs s := (rfl)
@[simp] theorem bind_bad {α β : Type} {f : α → GS → R β} : (R.bad : R α).bind f = .bad := (rfl)

/-- a target of a for, of an unpacking -/
inductive IT where
  | nm (i : Nat) | tp (is : List Nat)
inductive Ty where
  | bt (n : String) | cl (c : Nat)
inductive Bi where
  | len | abs | int | repr | sum | all | any | max | min | sorted | list | tuple | set | str
  deriving DecidableEq
inductive Bm where
  | append | join | pop
  deriving DecidableEq

mutual
inductive IE where
  | var (i : Nat)
  | con (v : GV)
  | glb (i : Nat)
  | bin (op : Operator) (a b : IE)
  | un (op : UnaryOp) (a : IE)
  | not_ (a : IE)
  | and_ (a b : IE)
  | or_ (a b : IE)
  | ife (c a b : IE)
  | cmp (op : CmpOp) (a b : IE)
  | chn (op op' : CmpOp) (a b c : IE)
  | ix (a b : IE)
  | sl (a : IE) (lo hi : IEo)
  | att (a : IE) (f : String)
  | lst (hp : Bool) (es : IEs)
  | tup (es : IEs)
  | lc (hp : Bool) (elt : IE) (tg : IT) (it : II) (c : IEo) (own : List Nat)
  | call (f : Nat) (es : IEs) (ks : List String) (kes : IEs)
  | make (c : Nat) (es : IEs) (ks : List String) (kes : IEs)
  | meth (o : IE) (m : String) (es : IEs) (ks : List String) (kes : IEs)
  | bi (n : Bi) (es : IEs)
  | bm (o : IE) (m : Bm) (es : IEs)
  | isi (a : IE) (ts : List Ty)
inductive IEs where
  | nil | cons (e : IE) (r : IEs)
inductive IEo where
  | no | so (e : IE)
inductive II where
  | seq (e : IE) | rng (es : IEs)
end

mutual
inductive IS where
  | exp (e : IE)
  | ret (e : IEo)
  | asg (i : Nat) (e : IE)
  | par (is : List Nat) (es : IEs)
  | unp (is : List Nat) (e : IE)
  | setA (o : IE) (f : String) (e : IE)
  | setI (o i e : IE)
  | aug (i : Nat) (op : Operator) (e : IE)
  | ife (c : IE) (a b : ISs)
  | for_ (tg : IT) (it : II) (b : ISs)
  | whl (c : IE) (b : ISs)
  | pass
  | brk
  | cnt
  | nev
inductive ISs where
  | nil | cons (s : IS) (r : ISs)
end

/-! ### reading, freezing -/
def GO.fz : GO → GV
  | .lst xs => .lst xs
  | .dct k => .dct k
  | .ins c fs => .obj c fs
  | .gone => .unk
/-- what a reader sees -/
def GO.vw (a : Nat) : GO → GV
  | .lst xs => .lst xs
  | .dct k => .dct k
  | .ins _ _ => .ref a
  | .gone => .ref a
def rdv (h : List GO) : GV → GV
  | .ref a => (match h[a]? with
    | some o => o.vw a
    | none => .ref a)
  | v => v
def rd (s : GS) : EV → GV
  | .g v => rdv s.h v
  | .slot i => (match s.σ[i]? with
    | some (.own o) => o.fz
    | some (.val v) => rdv s.h v
    | _ => .unk)
  | .new o => o.fz
/-- what is kept of it from now on never changes -/
def fz (s : GS) : EV → GV × GS
  | .g v => (v, s)
  | .slot i => (match s.σ[i]? with
    | some (.own o) => (o.fz, { s with σ := s.σ.set i (.val o.fz) })
    | some (.val v) => (v, s)
    | _ => (.unk, s))
  | .new o => (o.fz, s)
def fzs (s : GS) : List EV → List GV × GS
  | [] => ([], s)
  | x :: r => let (v, s1) := fz s x; let (vs, s2) := fzs s1 r; (v :: vs, s2)

/-! ### operators on what is read -/
def lenOk (n : Nat) : Prop := n ≤ sizeLine
open Classical in
noncomputable def binop (op : Operator) (x y : GV) : Option EV := match op, x, y with
  | .Add, .int i, .int j => some (.g (.int (i + j)))
  | .Add, .str i, .str j => if lenOk (i.length + j.length) then some (.g (.str (i ++ j))) else none
  | .Add, .lst i, .lst j => if lenOk (i.length + j.length) then some (.new (.lst (i ++ j))) else none
  | .Add, .tup i, .tup j => if lenOk (i.length + j.length) ∧ i ≠ [] then some (.g (.tup (i ++ j))) else none
  | .Sub, .int i, .int j => some (.g (.int (i - j)))
  | .Mult, .int i, .int j => if CMul i j then some (.g (.int (i * j))) else none
  | .Mult, .str x, .int k => if lenOk (x.length * k.toNat) ∧ -(2 ^ 63) ≤ k ∧ k < 2 ^ 63 then some (.g (.str ⟨(List.replicate k.toNat x.cps.toList).flatten.toArray⟩)) else none
  | .Mod, .int i, .int j => if 0 < j then some (.g (.int (i % j))) else none
  | .FloorDiv, .int i, .int j => if CDiv i j then some (.g (.int (i / j))) else none
  | .Pow, .int i, .int j => if CPow i j then some (.g (.int (i ^ j.toNat))) else none
  | .LShift, .int i, .int j => if CPow i j then some (.g (.int (i * 2 ^ j.toNat))) else none
  | .RShift, .int i, .int j => if 0 ≤ j then some (.g (.int (i / 2 ^ j.toNat))) else none
  | .BitAnd, .int i, .int j => some (.g (.int (Builtin.bitAnd i j)))
  | .BitOr, .int i, .int j => some (.g (.int (Builtin.bitOr i j)))
  | .BitXor, .int i, .int j => some (.g (.int (Builtin.bitXor i j)))
  | _, _, _ => none
def unop : UnaryOp → GV → Option GV
  | .USub, .int i => some (.int (-i))
  | .Invert, .int i => some (.int (Builtin.bitNot i))
  | _, _ => none
open Classical in
noncomputable def truth : GV → Option Bool
  | .non => some false
  | .bl b => some b
  | .int i => some (i != 0)
  | .str x => if lenOk x.length then some ((x.length : Int) != 0) else none
  | .lst xs => some (!xs.isEmpty)
  | .tup xs => some (!xs.isEmpty)
  | _ => none

/-! ### as data: ==, repr, order -/
mutual
def GV.pd : GV → Option PyData
  | .non => some .none
  | .bl b => some (.bool b)
  | .int i => some (.int i)
  | .str x => some (.str x)
  | .lst xs => (GV.pds xs).map .list
  | .tup xs => (GV.pds xs).map .tuple
  | _ => none
def GV.pds : List GV → Option (List PyData)
  | [] => some []
  | x :: r => match GV.pd x, GV.pds r with
    | some d, some ds => some (d :: ds)
    | _, _ => none
end
def geq (x y : GV) : Option Bool := match x.pd, y.pd with
  | some d, some e => if SeqAt.shaped d && SeqAt.shaped e then some (PyData.eqv d e) else none
  | _, _ => none
/-- x in xs: all of them data -/
def gin (x : GV) (ys : List GV) : Option Bool := match x.pd, GV.pds ys with
  | some d, some ds => if SeqAt.shaped d && SeqAt.shaped (.list ds) then some (ds.any fun z => PyData.eqv z d) else none
  | _, _ => none
def isN : GV → Option Bool
  | .non => some true
  | .unk => none
  | .exc _ _ => none
  | _ => some false
/-- lists of unlike lengths -/
def lenNe : GV → GV → Bool
  | .lst xs, .lst ys => xs.length != ys.length
  | _, _ => false
def eqv2 : GV → GV → Option Bool
  | .str i, .str j => some (i == j)
  | x, y => if lenNe x y = true then some false else geq x y
open Classical in
noncomputable def cmpop (op : CmpOp) (x y : GV) : Option Bool := match op, x, y with
  | .Eq, x, y => eqv2 x y
  | .NotEq, x, y => (eqv2 x y).map not
  | .Lt, .int i, .int j => some (decide (i < j))
  | .LtE, .int i, .int j => some (decide (i ≤ j))
  | .Gt, .int i, .int j => some (decide (j < i))
  | .GtE, .int i, .int j => some (decide (j ≤ i))
  | .Lt, .str i, .str j => some (decide (i.cps.toList < j.cps.toList))
  | .LtE, .str i, .str j => some (!decide (j.cps.toList < i.cps.toList))
  | .In, x, .lst ys => gin x ys
  | .NotIn, x, .lst ys => (gin x ys).map not
  | .Is, x, .non => isN x
  | .IsNot, x, .non => (isN x).map not
  | _, _, _ => none
open Classical in
noncomputable def gix (x y : GV) : Option GV := match x, y with
  | .lst xs, .int i => atI xs i
  | .tup xs, .int i => atI xs i
  | .scr ns, .int i => (atI ns i).map .int
  | .str z, .int i => if lenOk z.length then (atI z.cps.toList i).map fun c => .str ⟨#[c]⟩ else none
  | _, _ => none
def cutG {α : Type} (xs : List α) (lo hi : Option Int) : List α := (xs.drop (HT.sIx xs.length 0 lo)).take (HT.sIx xs.length xs.length hi - HT.sIx xs.length 0 lo)
open Classical in
noncomputable def gsl (x : GV) (lo hi : Option Int) : Option EV := match x with
  | .lst xs => some (.new (.lst (cutG xs lo hi)))
  | .scr ns => some (.new (.lst ((cutG ns lo hi).map .int)))
  | .tup xs => if ¬ (HT.sIx xs.length 0 lo = 0 ∧ HT.sIx xs.length xs.length hi = xs.length) then some (.g (.tup (cutG xs lo hi))) else none
  | .str z => if lenOk z.length then some (.g (.str (L2.cutS z lo hi))) else none
  | _ => none
def intsG : List GV → Option (List Int)
  | [] => some []
  | .int i :: r => (intsG r).map (i :: ·)
  | _ => none
def boolsG : List GV → Option (List Bool)
  | [] => some []
  | .bl i :: r => (boolsG r).map (i :: ·)
  | _ => none
def strs' : List GV → Option (List Str)
  | [] => some []
  | .str i :: r => (strs' r).map (i :: ·)
  | _ => none
/-- what is walked -/
def items : GV → Option (List GV)
  | .lst xs => some xs
  | .tup xs => some xs
  | .scr ns => some (ns.map .int)
  | .str z => some (z.cps.toList.map fun c => .str ⟨#[c]⟩)
  | _ => none
open Classical in
noncomputable def biF (n : Bi) (xs : List GV) : Option EV := match n, xs with
  | .len, [.lst xs] => some (.g (.int xs.length))
  | .len, [.tup xs] => some (.g (.int xs.length))
  | .len, [.scr xs] => some (.g (.int xs.length))
  | .len, [.str x] => if lenOk x.length then some (.g (.int x.length)) else none
  | .abs, [.int i] => some (.g (.int (if i < 0 then -i else i)))
  | .int, [.int i] => some (.g (.int i))
  | .int, [.bl b] => some (.g (.int (if b then 1 else 0)))
  | .max, [.int i, .int j] => some (.g (.int (if j > i then j else i)))
  | .min, [.int i, .int j] => some (.g (.int (if j < i then j else i)))
  | .sum, [.lst xs] => (intsG xs).map fun ns => .g (.int ns.sum)
  | .all, [.lst xs] => (boolsG xs).map fun bs => .g (.bl (bs.all id))
  | .any, [.lst xs] => (boolsG xs).map fun bs => .g (.bl (bs.any id))
  | .repr, [x] => (match x.pd with
    | some d => if d.showable = true ∧ d.shown.length ≤ sizeLine ∧ d.depth ≤ 60 then some (.g (.str d.shown)) else none
    | none => none)
  | .list, [x] => (match x with
    | .lst xs => some (.new (.lst xs))
    | .tup xs => some (.new (.lst xs))
    | .scr ns => some (.new (.lst (ns.map .int)))
    | _ => none)
  | .tuple, [.lst xs] => some (.g (.tup xs))
  | .tuple, [.tup xs] => some (.g (.tup xs))
  | _, _ => none

/-! ### stores -/
def unpk (v : GV) (n : Nat) : Option (List GV) := match v with
  | .tup xs => if xs.length = n then some xs else none
  | .lst xs => if xs.length = n then some xs else none
  | _ => none
def sets (σ : List Sl) : List Nat → List GV → List Sl
  | i :: r, v :: vs => sets (σ.set i (.val v)) r vs
  | _, _ => σ
def tgt (t : IT) (v : GV) (s : GS) : R Unit := match t with
  | .nm i => .ok () { s with σ := s.σ.set i (.val v) }
  | .tp is => (match unpk (rdv s.h v) is.length with
    | some vs => .ok () { s with σ := sets s.σ is vs }
    | none => .bad)
/-- name = value -/
def put1 (i : Nat) (x : EV) (s : GS) : GS := match x with
  | .new o => { s with σ := s.σ.set i (.own o) }
  | x => let (v, s1) := fz s x; { s1 with σ := s1.σ.set i (.val v) }
def puts : List Nat → List EV → GS → GS
  | i :: r, x :: xs, s => puts r xs (put1 i x s)
  | _, _, s => s
/-- a slot's own container becomes a value -/
def pin (s : GS) : EV → EV × GS
  | .slot i => (.g (fz s (.slot i)).1, (fz s (.slot i)).2)
  | x => (x, s)
def pins (s : GS) : List EV → List EV × GS
  | [] => ([], s)
  | x :: r => ((pin s x).1 :: (pins (pin s x).2 r).1, (pins (pin s x).2 r).2)
/-- the container that an expression's value is -/
def cont (s : GS) : EV → Option GO
  | .slot i => (match s.σ[i]? with
    | some (.own o) => some o
    | _ => none)
  | .g (.ref a) => s.h[a]?
  | _ => none
def recont (s : GS) (x : EV) (o : GO) : GS := match x with
  | .slot i => { s with σ := s.σ.set i (.own o) }
  | .g (.ref a) => { s with h := s.h.set a o }
  | _ => s
def upo (x : EV) (f : GO → Option (GV × GO)) (s : GS) : R EV := match cont s x with
  | some o => (match f o with
    | some (r, o') => .ok (.g r) (recont s x o')
    | none => .bad)
  | none => .bad
open Classical in
noncomputable def bmf (m : Bm) (vs : List GV) (o : GO) : Option (GV × GO) := match m, vs, o with
  | .append, [v], .lst xs => if xs.length < sizeLine then some (.non, .lst (xs ++ [v])) else none
  | .pop, [], .lst xs => (xs[xs.length - 1]?).map fun y => (y, .lst xs.dropLast)
  | .pop, [.int i], .lst xs => if -(2 ^ 63) ≤ i ∧ i < 2 ^ 63 then (match seqIndex? i xs.length with
    | some k => (xs[k]?).map fun y => (y, .lst (xs.eraseIdx k))
    | none => none) else none
  | _, _, _ => none
open Classical in
/-- a method that only reads -/
noncomputable def bmr (m : Bm) (x : GV) (ys : List GV) : Option EV := match m, x, ys with
  | .join, .str z, [.lst xs] => (match strs' xs with
    | some ss => if (ss.map (·.length)).sum + ss.length * z.length ≤ 16777216 then some (.g (.str (Txt.join z ss))) else none
    | none => none)
  | _, _, _ => none
/-- what a method stands on -/
def Bm.on : Bm → GV → Bool
  | .append, .lst _ => true
  | .pop, .lst _ => true
  | .join, .str _ => true
  | _, _ => false
def putIx (i v : GV) (o : GO) : Option (GV × GO) := match i, o with
  | .int k, .lst xs => (ixN xs.length k).map fun j => (.non, .lst (xs.set j v))
  | _, _ => none
def putF (f : String) (v : GV) : List (String × GV) → List (String × GV)
  | [] => [(f, v)]
  | (g, w) :: r => if g = f then (f, v) :: r else (g, w) :: putF f v r

/-! ### classes -/
structure GC where
  name : String
  /-- its instances have identity -/
  idn : Bool
  init : Option Nat
  meths : List (String × Nat)
  /-- the names of its instances' fields -/
  atts : List String
  /-- the names of built-in types above it, the classes above it and itself -/
  tys : List String
  ups : List Nat
/-- where a call's values come from, parameter by parameter -/
inductive Src where
  | pos (i : Nat) | kw (j : Nat) | dfl (v : GV)
/-- a function of the text; how it may be called: positional values, names -/
structure GF where
  arity : Nat
  slots : Nat
  body : ISs
  shapes : List ((Nat × List String) × List Src)
def pick (vs zs : List GV) : Src → Option GV
  | .pos i => vs[i]?
  | .kw j => zs[j]?
  | .dfl v => some v
def bindG (vs zs : List GV) : List Src → Option (List GV)
  | [] => some []
  | s :: r => match pick vs zs s, bindG vs zs r with
    | some v, some l => some (v :: l)
    | _, _ => none
structure Tab where
  cls : Nat → Option GC
  fns : Nat → Option GF
  con : Nat → GV
def Tab.args (T : Tab) (f : Nat) (vs : List GV) (ks : List String) (zs : List GV) : Option (List GV) := match T.fns f with
  | some d => if zs.length = ks.length then (match d.shapes.lookup (vs.length, ks) with
    | some l => bindG vs zs l
    | none => none) else none
  | none => none
abbrev CF := Nat → List GV → List GO → RF
def callF (T : Tab) (F : CF) (f : Nat) (vs : List GV) (ks : List String) (zs : List GV) (s : GS) : R EV := match T.args f vs ks zs with
  | some l => (match F f l s.h with
    | .ok v h => .ok (.g v) { s with h := h }
    | .exc c fs h => .exc c fs { s with h := h }
    | .bad => .bad)
  | none => .bad
def makeF (T : Tab) (F : CF) (c : Nat) (vs : List GV) (ks : List String) (zs : List GV) (s : GS) : R EV := match T.cls c with
  | some d => (match d.init with
    | some f => (match T.args f (.ref s.h.length :: vs) ks zs with
      | some l => (match F f l (s.h ++ [.ins c []]) with
        | .ok .non h => if d.idn then .ok (.g (.ref s.h.length)) { s with h := h } else (match h[s.h.length]? with
          | some (.ins c' fs) => .ok (.g (.obj c' fs)) { s with h := h.set s.h.length .gone }
          | _ => .bad)
        | .exc c fs h => .exc c fs { s with h := h }
        | _ => .bad)
      | none => .bad)
    | none => .bad)
  | none => .bad
def clsOf (h : List GO) : GV → Option (Nat × List (String × GV))
  | .ref a => (match h[a]? with
    | some (.ins c fs) => some (c, fs)
    | _ => none)
  | .obj c fs => some (c, fs)
  | _ => none
/-- the method that a thing has -/
def methOf (T : Tab) (h : List GO) (o : GV) (m : String) : Option Nat := match clsOf h o with
  | some (c, fs) => (match T.cls c with
    | some d => (match fs.lookup m with
      | none => d.meths.lookup m
      | some _ => none)
    | none => none)
  | none => none
def putFld (T : Tab) (f : String) (v : GV) (o : GO) : Option (GV × GO) := match o with
  | .ins c fs => (match T.cls c with
    | some d => if fs.length < 1000 ∧ d.atts.contains f = true then some (.non, .ins c (putF f v fs)) else none
    | none => none)
  | _ => none
def attF (T : Tab) (o : GV) (f : String) (s : GS) : R EV := match clsOf s.h o with
  | some (c, fs) => (match T.cls c with
    | some d => if d.atts.contains f then (match fs.lookup f with
      | some v => .ok (.g v) s
      | none => .bad) else .bad
    | none => .bad)
  | none => .bad
/-- the type of a value that is no own instance -/
def gvTy : GV → Option String
  | .non => some "NoneType"
  | .bl _ => some "bool"
  | .int _ => some "int"
  | .str _ => some "str"
  | .lst _ => some "list"
  | .scr _ => some "list"
  | .tup _ => some "tuple"
  | .dct _ => some "dict"
  | _ => none
def tyB (a b : String) : Bool := a == b || (a == "bool" && b == "int")
def tyAny (a : String) : List Ty → Bool
  | [] => false
  | .bt n :: r => tyB a n || tyAny a r
  | .cl _ :: r => tyAny a r
def isiF (T : Tab) (s : GS) (v : GV) (ts : List Ty) : Option Bool := (gvTy v).map fun a => tyAny a ts

/-! ### the interpreter -/
def lift {α β : Type} (o : Option α) (s : GS) (f : α → GS → R β) : R β := match o with
  | some a => f a s
  | none => .bad
@[simp] theorem lift_some {α β : Type} {a : α} {s : GS} {f : α → GS → R β} : lift (some a) s f = f a s := (rfl)
@[simp] theorem lift_none {α β : Type} {s : GS} {f : α → GS → R β} : lift none s f = .bad := (rfl)
def mk (hp : Bool) (o : GO) (s : GS) : R EV := if hp then .ok (.g (.ref s.h.length)) { s with h := s.h ++ [o] } else .ok (.new o) s

open Classical in
noncomputable def lcL (same : GS → Prop) (step : GV → GS → R (Option GV)) : List GV → List GV → GS → R (List GV)
  | [], acc, s => if same s then .ok acc s else .bad
  | x :: r, acc, s => if same s ∧ acc.length < sizeLine then (step x s).bind fun o s1 => (match o with
    | some v => lcL same step r (acc ++ [v]) s1
    | none => lcL same step r acc s1) else .bad
open Classical in
noncomputable def forL (same : GS → Prop) (step : GV → GS → R Fl) : List GV → GS → R Fl
  | [], s => if same s then .ok .nx s else .bad
  | x :: r, s => if same s then (step x s).bind fun f s1 => (match f with
    | .nx => forL same step r s1
    | .ct => forL same step r s1
    | .bk => .ok .nx s1
    | .rt v => .ok (.rt v) s1) else .bad
def whlL (c : GS → R Bool) (b : GS → R Fl) : Nat → GS → R Fl
  | 0, _ => .bad
  | n + 1, s => (c s).bind fun t s1 => if t then (b s1).bind fun f s2 => (match f with
    | .nx => whlL c b n s2
    | .ct => whlL c b n s2
    | .bk => .ok .nx s2
    | .rt v => .ok (.rt v) s2) else .ok .nx s1
/-- a block's own slots, ahead of it and behind it -/
def wipeG (σ : List Sl) : List Nat → List Sl
  | [] => σ
  | i :: r => (wipeG σ r).set i .no
def Sl.kept : Option Sl → Sl
  | some (.val v) => .val v
  | _ => .no
def backG (σ σ' : List Sl) : List Nat → List Sl
  | [] => σ'
  | i :: r => (backG σ σ' r).set i (Sl.kept σ[i]?)
def same (x : EV) (v : GV) (s : GS) : Prop := rd s x = v
/-- no exception leaves a comprehension -/
def R.nox {α : Type} : R α → R α
  | .exc _ _ _ => .bad
  | r => r
def bigN : Nat := 100000000

/-- in a test: the truth of it -/
noncomputable def fin (m : Bool) (r : R EV) : R EV := if m then r.bind fun x s => lift (truth (rd s x)) s fun b => .ok (.g (.bl b)) else r
def tst (r : R EV) : R Bool := r.bind fun x s => (match x with
  | .g (.bl b) => .ok b s
  | _ => .bad)
section
variable (T : Tab) (F : CF)
mutual
/-- an expression; m: in a test -/
noncomputable def evE : IE → Bool → GS → R EV
  | .var i, m, s => fin m (match s.σ[i]? with
    | some (.val v) => .ok (.g v) s
    | some (.own _) => .ok (.slot i) s
    | _ => .bad)
  | .con v, m, s => fin m (.ok (.g v) s)
  | .glb i, m, s => fin m (.ok (.g (T.con i)) s)
  | .bin op a b, m, s => fin m ((evE a false s).bind fun x s1 => (evE b false s1).bind fun y s2 => lift (binop op (rd s2 x) (rd s2 y)) s2 .ok)
  | .un op a, m, s => fin m ((evE a false s).bind fun x s1 => lift (unop op (rd s1 x)) s1 fun v => .ok (.g v))
  | .not_ a, m, s => if m then (tst (evE a true s)).bind fun b s1 => .ok (.g (.bl (!b))) s1 else (evE a false s).bind fun x s1 => lift (truth (rd s1 x)) s1 fun b => .ok (.g (.bl (!b)))
  | .and_ a b, m, s => if m then (tst (evE a true s)).bind fun t s1 => if t then evE b true s1 else .ok (.g (.bl false)) s1 else (evE a false s).bind fun x s1 => (match rd s1 x with
    | .bl true => evE b false s1
    | .bl false => .ok (.g (.bl false)) s1
    | _ => .bad)
  | .or_ a b, m, s => if m then (tst (evE a true s)).bind fun t s1 => if t then .ok (.g (.bl true)) s1 else evE b true s1 else (evE a false s).bind fun x s1 => (match rd s1 x with
    | .bl true => .ok (.g (.bl true)) s1
    | .bl false => evE b false s1
    | _ => .bad)
  | .ife c a b, m, s => (tst (evE c true s)).bind fun t s1 => if t then evE a m s1 else evE b m s1
  | .cmp op a b, m, s => (evE a false s).bind fun x s1 => (evE b false s1).bind fun y s2 => lift (cmpop op (rd s2 x) (rd s2 y)) s2 fun t => .ok (.g (.bl t))
  | .chn op op' a b c, m, s => (evE a false s).bind fun x s1 => (evE b false s1).bind fun y s2 => lift (cmpop op (rd s2 x) (rd s2 y)) s2 fun t s3 =>
      if t then (evE c false s3).bind fun z s4 => lift (cmpop op' (rd s4 y) (rd s4 z)) s4 fun t' => .ok (.g (.bl t')) else .ok (.g (.bl false)) s3
  | .ix a b, m, s => fin m ((evE a false s).bind fun x s1 => (evE b false s1).bind fun y s2 => lift (gix (rd s2 x) (rd s2 y)) s2 fun v => .ok (.g v))
  | .sl a lo hi, m, s => fin m ((evE a false s).bind fun x s1 => (evO lo s1).bind fun l s2 => (evO hi s2).bind fun u s3 => lift (gsl (rd s3 x) l u) s3 .ok)
  | .att a f, m, s => fin m ((evE a false s).bind fun x s1 => (match x with
    | .g v => attF T v f s1
    | _ => .bad))
  | .lst hp es, m, s => fin m ((evVs es s).bind fun xs s1 => if xs.length ≤ sizeLine then (let (vs, s2) := fzs s1 xs; mk hp (.lst vs) s2) else .bad)
  | .tup es, m, s => fin m ((evVs es s).bind fun xs s1 => if xs.length ≤ sizeLine then (let (vs, s2) := fzs s1 xs; .ok (.g (.tup vs)) s2) else .bad)
  | .lc hp elt tg it c own, m, s => fin m ((evI it s).bind fun p s1 => ((lcL (same p.2.1 p.2.2) (fun v s2 => ((tgt tg v s2).bind fun _ s3 => (evC c s3).bind fun t s4 =>
      if t then (evE elt false s4).bind fun x s5 => .ok (some (fz s5 x).1) (fz s5 x).2 else .ok none s4).bind fun o s6 => .ok o { s6 with σ := wipeG s6.σ own }) p.1 [] { s1 with σ := wipeG s1.σ own }).nox).bind fun vs s2 => mk hp (.lst vs) { s2 with σ := backG s1.σ s2.σ own })
  | .call f es ks kes, m, s => fin m ((evVs es s).bind fun xs s1 => (evVs kes s1).bind fun ys s2 => let (vs, s3) := fzs s2 xs; let (zs, s4) := fzs s3 ys; callF T F f vs ks zs s4)
  | .make c es ks kes, m, s => fin m ((evVs es s).bind fun xs s1 => (evVs kes s1).bind fun ys s2 => let (vs, s3) := fzs s2 xs; let (zs, s4) := fzs s3 ys; makeF T F c vs ks zs s4)
  | .meth o n es ks kes, m, s => fin m ((evE o false s).bind fun x s0 => (match x with
    | .g v => (match methOf T s0.h v n with
      | some f => (evVs es s0).bind fun xs s1 => (evVs kes s1).bind fun ys s2 => let (vs, s3) := fzs s2 xs; let (zs, s4) := fzs s3 ys; callF T F f (v :: vs) ks zs s4
      | none => .bad)
    | _ => .bad))
  | .bi n es, m, s => fin m ((evVs es s).bind fun xs s1 => lift (biF n (xs.map (rd s1))) s1 .ok)
  | .bm o n es, m, s => fin m ((evE o false s).bind fun x s1 => if n.on (rd s1 x) then (evVs es s1).bind fun ys s2 => (match bmr n (rd s2 x) (ys.map (rd s2)) with
    | some r => .ok r s2
    | none => let (vs, s3) := fzs s2 ys; upo x (bmf n vs) s3) else .bad)
  | .isi a ts, m, s => fin m ((evE a false s).bind fun x s1 => lift (isiF T s1 (rd s1 x) ts) s1 fun b => .ok (.g (.bl b)))
noncomputable def evVs : IEs → GS → R (List EV)
  | .nil, s => .ok [] s
  | .cons e r, s => (evE e false s).bind fun x s1 => (evVs r s1).bind fun xs s2 => .ok (x :: xs) s2
/-- a part of a slice -/
noncomputable def evO : IEo → GS → R (Option Int)
  | .no, s => .ok none s
  | .so e, s => (evE e false s).bind fun x s1 => (match rd s1 x with
    | .int i => .ok (some i) s1
    | _ => .bad)
/-- a comprehension's test -/
noncomputable def evC : IEo → GS → R Bool
  | .no, s => .ok true s
  | .so e, s => tst (evE e true s)
/-- what is walked: the items; the thing itself, what it is -/
noncomputable def evI : II → GS → R (List GV × EV × GV)
  | .seq e, s => (evE e false s).bind fun x s1 => lift (items (rd (pin s1 x).2 (pin s1 x).1)) (pin s1 x).2 fun vs => .ok (vs, (pin s1 x).1, rd (pin s1 x).2 (pin s1 x).1)
  | .rng es, s => (evVs es s).bind fun xs s1 => (match xs.map (rd s1) with
    | [.int j] => if -(2 ^ 62) ≤ j ∧ j < 2 ^ 62 then .ok ((List.range j.toNat).map fun k => .int (k : Nat), .g .non, .non) s1 else .bad
    | [.int i, .int j] => if (-(2 ^ 62) ≤ i ∧ i < 2 ^ 62 ∧ -(2 ^ 62) ≤ j ∧ j < 2 ^ 62) then .ok ((List.range (j - i).toNat).map fun k => .int (i + (k : Nat)), .g .non, .non) s1 else .bad
    | _ => .bad)
end
/-- a statement's test -/
noncomputable abbrev evT (e : IE) (s : GS) : R Bool := tst (evE T F e true s)

mutual
noncomputable def evS : IS → GS → R Fl
  | .exp e, s => (evE T F e false s).bind fun _ s1 => .ok .nx s1
  | .ret .no, s => .ok (.rt .non) s
  | .ret (.so e), s => (evE T F e false s).bind fun x s1 => (let (v, s2) := fz s1 x; .ok (.rt v) s2)
  | .asg i e, s => (evE T F e false s).bind fun x s1 => .ok .nx (put1 i x s1)
  | .par is es, s => (evVs T F es s).bind fun xs s1 => .ok .nx (puts is (pins s1 xs).1 (pins s1 xs).2)
  | .unp is e, s => (evE T F e false s).bind fun x s1 => lift (unpk (rd s1 x) is.length) s1 fun vs s2 => .ok .nx { s2 with σ := sets s2.σ is vs }
  | .setA o f e, s => (evE T F e false s).bind fun x s1 => (evE T F o false s1).bind fun y s2 => (let (v, s3) := fz s2 x; (upo y (putFld T f v) s3).bind fun _ s4 => .ok .nx s4)
  | .setI o i e, s => (evE T F e false s).bind fun x s1 => (evE T F o false s1).bind fun y s2 => (evE T F i false s2).bind fun z s3 => (let (v, s4) := fz s3 x; let (k, s5) := fz s4 z; (upo y (putIx k v) s5).bind fun _ s6 => .ok .nx s6)
  | .aug i op e, s => (match s.σ[i]? with
    | some (.val (.int k)) => (evE T F e false s).bind fun x s1 => lift (binop op (.int k) (rd s1 x)) s1 fun y s2 => (match y with
      | .g v => .ok .nx { s2 with σ := s2.σ.set i (.val v) }
      | _ => .bad)
    | _ => .bad)
  | .ife c a b, s => (evT T F c s).bind fun t s1 => if t then evSs a s1 else evSs b s1
  | .for_ tg it b, s => (evI T F it s).bind fun p s1 => forL (same p.2.1 p.2.2) (fun v s2 => (tgt tg v s2).bind fun _ s3 => evSs b s3) p.1 s1
  | .whl c b, s => whlL (evT T F c) (evSs b) bigN s
  | .pass, s => .ok .nx s
  | .brk, s => .ok .bk s
  | .cnt, s => .ok .ct s
  | .nev, _ => .bad
noncomputable def evSs : ISs → GS → R Fl
  | .nil, s => .ok .nx s
  | .cons st r, s => (evS st s).bind fun f s1 => (match f with
    | .nx => evSs r s1
    | f => .ok f s1)
end
/-- a function called -/
noncomputable def runF (f : Nat) (vs : List GV) (h : List GO) : RF := match T.fns f with
  | some d => if vs.length = d.arity then (match evSs T F d.body ⟨vs.map .val ++ List.replicate (d.slots - vs.length) .no, h⟩ with
    | .ok (.rt v) s => .ok v s.h
    | .ok .nx s => .ok .non s.h
    | .ok _ _ => .bad
    | .exc c fs s => .exc c fs s.h
    | .bad => .bad) else .bad
  | none => .bad
end
noncomputable def run (T : Tab) : Nat → CF
  | 0 => fun _ _ _ => .bad
  | n + 1 => runF T (run T n)
end GI
set_option Elab.async false
set_option linter.all false
set_option maxRecDepth 100000
/-! GI.Rel: what a ghost state says of the abstract heap. -/
namespace GI
open PySem PySem.Spec PyProof.Rows L2

abbrev AP := Addr → Prop
abbrev St := L2.St
/-- a tuple of the written part -/
def KTup (K : PySem.W.Frag) (p : Addr) (vs : List V) : Prop := ∃ (o : Obj) (its : Array Value) (n : Nat), K.lookup p = some o ∧ o.cls = .type "tuple" ∧ o.data = .seq its n ∧ its.size ≤ sizeLine ∧ Vals vs its.toList
/-- a list of the written part -/
def KLst (K : PySem.W.Frag) (p : Addr) (vs : List V) : Prop := ∃ (o : Obj) (its : Array Value) (n : Nat), K.lookup p = some o ∧ o.cls = .type "list" ∧ o.dict = none ∧ o.data = .seq its n ∧ its.size ≤ sizeLine ∧ Vals vs its.toList
/-- the script: it stays -/
def FLst (K : PySem.W.Frag) (U : AP) (H : Hp) (p : Addr) (vs : List V) : Prop := (¬ U p ∧ ∃ o, H p = some (.frz o (.lst vs))) ∨ KLst K p vs
theorem FLst.sq {K : PySem.W.Frag} {U : AP} {H : Hp} {p : Addr} {vs : List V} (h : FLst K U H p vs) : SqL K H p vs := by
  rcases h with ⟨_, o, h⟩ | h
  · exact .inl (.inr ⟨o, h⟩)
  · exact .inr h
def keyG : GV → Key → Prop
  | .int i, k => k = .inl i
  | .str x, k => k = .inr x
  | _, _ => False
def keysG : List GV → List Key → Prop
  | [], [] => True
  | g :: gs, k :: ks => keyG g k ∧ keysG gs ks
  | _, _ => False
def tupG : GV → List Key → Prop
  | .tup gs, ks => keysG gs ks
  | _, _ => False
section
variable (K : PySem.W.Frag) (cid : Nat → Addr) (ρ : List Addr) (U : AP) (H : Hp)
mutual
def RV : GV → V → Prop
  | .non, v => v = .non
  | .bl b, v => v = .bl b
  | .int i, v => v = .int i
  | .str x, v => v = .str x
  | .lst xs, v => ∃ p vs, v = .ref p ∧ ¬ U p ∧ H p = some (.lst vs) ∧ RVs xs vs
  | .tup xs, v => ∃ p vs, v = .ref p ∧ ((¬ U p ∧ H p = some (.tup vs)) ∨ KTup K p vs) ∧ RVs xs vs
  | .scr ns, v => ∃ p, v = .ref p ∧ FLst K U H p (ns.map V.int)
  | .dct kvs, v => ∃ p, v = .ref p ∧ ¬ U p ∧ ((∃ l, H p = some (.dK l) ∧ RKs kvs l) ∨ ∃ l, H p = some (.dT l) ∧ RTs kvs l)
  | .obj c fs, v => ∃ p dx vs, v = .ref p ∧ ¬ U p ∧ H p = some (.ins (cid c) dx vs) ∧ RFs fs vs
  | .exc _ _, _ => False
  | .unk, _ => True
  | .ref a, v => ∃ p, v = .ref p ∧ ρ[a]? = some p
def RVs : List GV → List V → Prop
  | [], vs => vs = []
  | g :: gs, vs => ∃ w ws, vs = w :: ws ∧ RV g w ∧ RVs gs ws
def RKs : List (GV × GV) → List (Key × V) → Prop
  | [], l => l = []
  | (k, g) :: r, l => ∃ k' w ws, l = (k', w) :: ws ∧ keyG k k' ∧ RV g w ∧ RKs r ws
def RTs : List (GV × GV) → List (List Key × V) → Prop
  | [], l => l = []
  | (k, g) :: r, l => ∃ k' w ws, l = (k', w) :: ws ∧ tupG k k' ∧ RV g w ∧ RTs r ws
def RFs : List (String × GV) → List (Str × V) → Prop
  | [], l => l = []
  | (f, g) :: r, l => ∃ w ws, l = (Str.ofString f, w) :: ws ∧ RV g w ∧ RFs r ws
end
/-- what stands at p, p's own reservation aside -/
def OR (p : Addr) : GO → Prop
  | .lst xs => ∃ vs, H p = some (.lst vs) ∧ RVs K cid ρ U H xs vs
  | .dct kvs => (∃ l, H p = some (.dK l) ∧ RKs K cid ρ U H kvs l) ∨ ∃ l, H p = some (.dT l) ∧ RTs K cid ρ U H kvs l
  | .ins c fs => ∃ dx vs, H p = some (.ins (cid c) dx vs) ∧ RFs K cid ρ U H fs vs
  | .gone => False
/-- what a reader finds -/
def VW : GV → V → Prop
  | .lst xs, v => ∃ p vs, v = .ref p ∧ H p = some (.lst vs) ∧ RVs K cid ρ U H xs vs
  | .dct kvs, v => ∃ p, v = .ref p ∧ ((∃ l, H p = some (.dK l) ∧ RKs K cid ρ U H kvs l) ∨ ∃ l, H p = some (.dT l) ∧ RTs K cid ρ U H kvs l)
  | .obj c fs, v => ∃ p dx vs, v = .ref p ∧ H p = some (.ins (cid c) dx vs) ∧ RFs K cid ρ U H fs vs
  | g, v => RV K cid ρ U H g v
end

/-- from one moment to a later one: Ma may have been changed, Mb may be changed now -/
structure Ext (ρ ρ' : List Addr) (Ma Mb : AP) (H H' : Hp) : Prop where
  pre : ∃ m, ρ' = ρ ++ m
  keep : ∀ p o, ¬ Ma p → H p = some o → H' p = some o
  dom : ∀ p, H p ≠ none → H' p ≠ none
  mb : ∀ p, Mb p → Ma p ∨ H p = none
theorem Ext.refl {ρ : List Addr} {M : AP} {H : Hp} : Ext ρ ρ M M H H := ⟨⟨[], by simp⟩, fun _ _ _ h => h, fun _ h => h, fun _ h => .inl h⟩
theorem Ext.trans {ρ ρ' ρ'' : List Addr} {A B C : AP} {H H' H'' : Hp} (x : Ext ρ ρ' A B H H') (y : Ext ρ' ρ'' B C H' H'') : Ext ρ ρ'' A C H H'' := by
  obtain ⟨⟨m, e1⟩, k1, d1, b1⟩ := x
  obtain ⟨⟨m', e2⟩, k2, d2, b2⟩ := y
  refine ⟨⟨m ++ m', by rw [e2, e1, List.append_assoc]⟩, fun p o n h => ?_, fun p h => d2 p (d1 p h), fun p h => ?_⟩
  · refine k2 p o (fun z => ?_) (k1 p o n h)
    rcases b1 p z with z | z
    · exact n z
    · rw [h] at z; cases z
  · rcases b2 p h with z | z
    · exact b1 p z
    · refine .inr ?_
      cases q : H p with
      | none => rfl
      | some o => exact absurd z (d1 p (by rw [q]; simp))
theorem Ext.at {ρ ρ' : List Addr} {A B : AP} {H H' : Hp} (x : Ext ρ ρ' A B H H') {a : Nat} {p : Addr} (h : ρ[a]? = some p) : ρ'[a]? = some p := by
  obtain ⟨m, e⟩ := x.pre
  have hl : a < ρ.length := (List.getElem?_eq_some_iff.mp h).1
  rw [e, List.getElem?_append_left hl]
  exact h

section
variable {K : PySem.W.Frag} {cid : Nat → Addr} {ρ ρ' : List Addr} {U U' Ma Mb : AP} {H H' : Hp}
/-- a change of the moment under which values stay -/
structure Mv (ρ ρ' : List Addr) (U U' : AP) (H H' : Hp) : Prop where
  ats : ∀ (a : Nat) (p : Addr), ρ[a]? = some p → ρ'[a]? = some p
  keep : ∀ p o, ¬ U p → H p = some o → H' p = some o
  nu : ∀ p o, ¬ U p → H p = some o → ¬ U' p
theorem Ext.mv (x : Ext ρ ρ' Ma Mb H H') (hm : ∀ p, Ma p → U p) (hu : ∀ p, U' p → U p ∨ H p = none) : Mv ρ ρ' U U' H H' :=
  ⟨fun _ _ h => x.at h, fun p o n h => x.keep p o (fun z => n (hm p z)) h, fun p o n h z => by
    rcases hu p z with q | q
    · exact n q
    · rw [h] at q; cases q⟩
theorem Mv.less (hu : ∀ p, U' p → U p) : Mv ρ ρ U U' H H := ⟨fun _ _ h => h, fun _ _ _ h => h, fun p _ n _ z => n (hu p z)⟩
mutual
theorem RV.mv (m : Mv ρ ρ' U U' H H') : ∀ {g : GV} {v : V}, RV K cid ρ U H g v → RV K cid ρ' U' H' g v
  | .non, _, h => h
  | .bl _, _, h => h
  | .int _, _, h => h
  | .str _, _, h => h
  | .lst xs, v, h => by
    obtain ⟨p, vs, e, n, hp, r⟩ := (show ∃ p vs, v = .ref p ∧ ¬ U p ∧ H p = some (.lst vs) ∧ RVs K cid ρ U H xs vs from h)
    exact ⟨p, vs, e, m.nu p _ n hp, m.keep p _ n hp, RVs.mv m r⟩
  | .tup xs, v, h => by
    obtain ⟨p, vs, e, hp, r⟩ := (show ∃ p vs, v = .ref p ∧ ((¬ U p ∧ H p = some (.tup vs)) ∨ KTup K p vs) ∧ RVs K cid ρ U H xs vs from h)
    refine ⟨p, vs, e, ?_, RVs.mv m r⟩
    rcases hp with ⟨n, hp⟩ | hp
    · exact .inl ⟨m.nu p _ n hp, m.keep p _ n hp⟩
    · exact .inr hp
  | .scr ns, v, h => by
    obtain ⟨p, e, hp⟩ := (show ∃ p, v = .ref p ∧ FLst K U H p (ns.map V.int) from h)
    refine ⟨p, e, ?_⟩
    rcases hp with ⟨n, o, hp⟩ | hp
    · exact .inl ⟨m.nu p _ n hp, o, m.keep p _ n hp⟩
    · exact .inr hp
  | .dct kvs, v, h => by
    obtain ⟨p, e, n, hp⟩ := (show ∃ p, v = .ref p ∧ ¬ U p ∧ ((∃ l, H p = some (.dK l) ∧ RKs K cid ρ U H kvs l) ∨ ∃ l, H p = some (.dT l) ∧ RTs K cid ρ U H kvs l) from h)
    rcases hp with ⟨l, hp, r⟩ | ⟨l, hp, r⟩
    · exact ⟨p, e, m.nu p _ n hp, .inl ⟨l, m.keep p _ n hp, RKs.mv m r⟩⟩
    · exact ⟨p, e, m.nu p _ n hp, .inr ⟨l, m.keep p _ n hp, RTs.mv m r⟩⟩
  | .obj c fs, v, h => by
    obtain ⟨p, dx, vs, e, n, hp, r⟩ := (show ∃ p dx vs, v = .ref p ∧ ¬ U p ∧ H p = some (.ins (cid c) dx vs) ∧ RFs K cid ρ U H fs vs from h)
    exact ⟨p, dx, vs, e, m.nu p _ n hp, m.keep p _ n hp, RFs.mv m r⟩
  | .exc _ _, _, h => h
  | .unk, _, h => h
  | .ref a, v, h => by
    obtain ⟨p, e, hp⟩ := (show ∃ p, v = .ref p ∧ ρ[a]? = some p from h)
    exact ⟨p, e, m.ats a p hp⟩
theorem RVs.mv (m : Mv ρ ρ' U U' H H') : ∀ {gs : List GV} {vs : List V}, RVs K cid ρ U H gs vs → RVs K cid ρ' U' H' gs vs
  | [], _, h => h
  | g :: gs, vs, h => by
    obtain ⟨w, ws, e, h1, h2⟩ := (show ∃ w ws, vs = w :: ws ∧ RV K cid ρ U H g w ∧ RVs K cid ρ U H gs ws from h)
    exact ⟨w, ws, e, RV.mv m h1, RVs.mv m h2⟩
theorem RKs.mv (m : Mv ρ ρ' U U' H H') : ∀ {gs : List (GV × GV)} {vs : List (Key × V)}, RKs K cid ρ U H gs vs → RKs K cid ρ' U' H' gs vs
  | [], _, h => h
  | (k, g) :: gs, vs, h => by
    obtain ⟨k', w, ws, e, hk, h1, h2⟩ := (show ∃ k' w ws, vs = (k', w) :: ws ∧ keyG k k' ∧ RV K cid ρ U H g w ∧ RKs K cid ρ U H gs ws from h)
    exact ⟨k', w, ws, e, hk, RV.mv m h1, RKs.mv m h2⟩
theorem RTs.mv (m : Mv ρ ρ' U U' H H') : ∀ {gs : List (GV × GV)} {vs : List (List Key × V)}, RTs K cid ρ U H gs vs → RTs K cid ρ' U' H' gs vs
  | [], _, h => h
  | (k, g) :: gs, vs, h => by
    obtain ⟨k', w, ws, e, hk, h1, h2⟩ := (show ∃ k' w ws, vs = (k', w) :: ws ∧ tupG k k' ∧ RV K cid ρ U H g w ∧ RTs K cid ρ U H gs ws from h)
    exact ⟨k', w, ws, e, hk, RV.mv m h1, RTs.mv m h2⟩
theorem RFs.mv (m : Mv ρ ρ' U U' H H') : ∀ {gs : List (String × GV)} {vs : List (Str × V)}, RFs K cid ρ U H gs vs → RFs K cid ρ' U' H' gs vs
  | [], _, h => h
  | (f, g) :: gs, vs, h => by
    obtain ⟨w, ws, e, h1, h2⟩ := (show ∃ w ws, vs = (Str.ofString f, w) :: ws ∧ RV K cid ρ U H g w ∧ RFs K cid ρ U H gs ws from h)
    exact ⟨w, ws, e, RV.mv m h1, RFs.mv m h2⟩
end
theorem OR.mv (m : Mv ρ ρ' U U' H H') {p : Addr} (hp : H' p = H p) : ∀ {o : GO}, OR K cid ρ U H p o → OR K cid ρ' U' H' p o
  | .lst xs, h => by
    obtain ⟨vs, e, r⟩ := h
    exact ⟨vs, by rw [hp]; exact e, RVs.mv m r⟩
  | .dct kvs, h => by
    rcases h with ⟨l, e, r⟩ | ⟨l, e, r⟩
    · exact .inl ⟨l, by rw [hp]; exact e, RKs.mv m r⟩
    · exact .inr ⟨l, by rw [hp]; exact e, RTs.mv m r⟩
  | .ins c fs, h => by
    obtain ⟨dx, vs, e, r⟩ := h
    exact ⟨dx, vs, by rw [hp]; exact e, RFs.mv m r⟩
  | .gone, h => h
theorem OR.some {p : Addr} : ∀ {o : GO}, OR K cid ρ U H p o → ∃ u, H p = some u ∧ Mut (some u)
  | .lst xs, h => by obtain ⟨vs, e, r⟩ := h; exact ⟨_, e, trivial⟩
  | .dct kvs, h => by
    rcases h with ⟨l, e, r⟩ | ⟨l, e, r⟩
    · exact ⟨_, e, trivial⟩
    · exact ⟨_, e, trivial⟩
  | .ins c fs, h => by obtain ⟨dx, vs, e, r⟩ := h; exact ⟨_, e, trivial⟩
  | .gone, h => h.elim
/-- what is frozen at p is a value, where p is not reserved -/
theorem OR.rv {p : Addr} (n : ¬ U p) : ∀ {o : GO}, OR K cid ρ U H p o → RV K cid ρ U H o.fz (.ref p)
  | .lst xs, h => by obtain ⟨vs, e, r⟩ := h; exact ⟨p, vs, rfl, n, e, r⟩
  | .dct kvs, h => ⟨p, rfl, n, h⟩
  | .ins c fs, h => by obtain ⟨dx, vs, e, r⟩ := h; exact ⟨p, dx, vs, rfl, n, e, r⟩
  | .gone, h => h.elim
theorem OR.vw {p : Addr} : ∀ {o : GO}, OR K cid ρ U H p o → VW K cid ρ U H o.fz (.ref p)
  | .lst xs, h => by obtain ⟨vs, e, r⟩ := h; exact ⟨p, vs, rfl, e, r⟩
  | .dct kvs, h => ⟨p, rfl, h⟩
  | .ins c fs, h => by obtain ⟨dx, vs, e, r⟩ := h; exact ⟨p, dx, vs, rfl, e, r⟩
  | .gone, h => h.elim
theorem RV.vw : ∀ {g : GV} {v : V}, RV K cid ρ U H g v → VW K cid ρ U H g v
  | .non, _, h => h
  | .bl _, _, h => h
  | .int _, _, h => h
  | .str _, _, h => h
  | .lst xs, v, h => by obtain ⟨p, vs, e, n, hp, r⟩ := h; exact ⟨p, vs, e, hp, r⟩
  | .tup xs, v, h => h
  | .scr ns, v, h => h
  | .dct kvs, v, h => by obtain ⟨p, e, n, hp⟩ := h; exact ⟨p, e, hp⟩
  | .obj c fs, v, h => by obtain ⟨p, dx, vs, e, n, hp, r⟩ := h; exact ⟨p, dx, vs, e, hp, r⟩
  | .exc _ _, _, h => h
  | .unk, _, h => h
  | .ref a, v, h => h
theorem RVs.length : ∀ {gs : List GV} {vs : List V}, RVs K cid ρ U H gs vs → gs.length = vs.length
  | [], _, h => by cases (show _ = [] from h); rfl
  | g :: gs, vs, h => by
    obtain ⟨w, ws, e, h1, h2⟩ := (show ∃ w ws, vs = w :: ws ∧ RV K cid ρ U H g w ∧ RVs K cid ρ U H gs ws from h)
    subst e
    rw [List.length_cons, List.length_cons, RVs.length h2]
theorem RVs.at : ∀ {gs : List GV} {vs : List V} {i : Nat} {g : GV}, RVs K cid ρ U H gs vs → gs[i]? = some g → ∃ v, vs[i]? = some v ∧ RV K cid ρ U H g v
  | [], _, i, _, _, e => by simp at e
  | g :: gs, vs, i, g', h, e => by
    obtain ⟨w, ws, e1, h1, h2⟩ := (show ∃ w ws, vs = w :: ws ∧ RV K cid ρ U H g w ∧ RVs K cid ρ U H gs ws from h)
    subst e1
    cases i with
    | zero => simp at e; subst e; exact ⟨w, rfl, h1⟩
    | succ i =>
      obtain ⟨v, e2, r⟩ := RVs.at (i := i) h2 (by simpa using e)
      exact ⟨v, by simpa using e2, r⟩
theorem RVs.append : ∀ {gs gs' : List GV} {vs vs' : List V}, RVs K cid ρ U H gs vs → RVs K cid ρ U H gs' vs' → RVs K cid ρ U H (gs ++ gs') (vs ++ vs')
  | [], _, _, _, h, h' => by cases (show _ = [] from h); exact h'
  | g :: gs, gs', vs, vs', h, h' => by
    obtain ⟨w, ws, e, h1, h2⟩ := (show ∃ w ws, vs = w :: ws ∧ RV K cid ρ U H g w ∧ RVs K cid ρ U H gs ws from h)
    subst e
    exact ⟨w, ws ++ vs', rfl, h1, RVs.append h2 h'⟩
theorem RVs.take : ∀ {gs : List GV} {vs : List V} (n : Nat), RVs K cid ρ U H gs vs → RVs K cid ρ U H (gs.take n) (vs.take n)
  | [], _, n, h => by cases (show _ = [] from h); simp; rfl
  | g :: gs, vs, 0, h => by simp; rfl
  | g :: gs, vs, n + 1, h => by
    obtain ⟨w, ws, e, h1, h2⟩ := (show ∃ w ws, vs = w :: ws ∧ RV K cid ρ U H g w ∧ RVs K cid ρ U H gs ws from h)
    subst e
    exact ⟨w, ws.take n, rfl, h1, RVs.take n h2⟩
theorem RVs.drop : ∀ {gs : List GV} {vs : List V} (n : Nat), RVs K cid ρ U H gs vs → RVs K cid ρ U H (gs.drop n) (vs.drop n)
  | [], _, n, h => by cases (show _ = [] from h); simp; rfl
  | g :: gs, vs, 0, h => h
  | g :: gs, vs, n + 1, h => by
    obtain ⟨w, ws, e, h1, h2⟩ := (show ∃ w ws, vs = w :: ws ∧ RV K cid ρ U H g w ∧ RVs K cid ρ U H gs ws from h)
    subst e
    exact RVs.drop n h2
theorem RVs.set : ∀ {gs : List GV} {vs : List V} {g : GV} {v : V} (i : Nat), RVs K cid ρ U H gs vs → RV K cid ρ U H g v → RVs K cid ρ U H (gs.set i g) (vs.set i v)
  | [], _, _, _, i, h, r => by cases (show _ = [] from h); simp; rfl
  | g :: gs, vs, g', v', i, h, r => by
    obtain ⟨w, ws, e, h1, h2⟩ := (show ∃ w ws, vs = w :: ws ∧ RV K cid ρ U H g w ∧ RVs K cid ρ U H gs ws from h)
    subst e
    cases i with
    | zero => exact ⟨v', ws, rfl, r, h2⟩
    | succ i => exact ⟨w, ws.set i v', rfl, h1, RVs.set i h2 r⟩
theorem RVs.erase : ∀ {gs : List GV} {vs : List V} (i : Nat), RVs K cid ρ U H gs vs → RVs K cid ρ U H (gs.eraseIdx i) (vs.eraseIdx i)
  | [], _, i, h => by cases (show _ = [] from h); simp; rfl
  | g :: gs, vs, i, h => by
    obtain ⟨w, ws, e, h1, h2⟩ := (show ∃ w ws, vs = w :: ws ∧ RV K cid ρ U H g w ∧ RVs K cid ρ U H gs ws from h)
    subst e
    cases i with
    | zero => exact h2
    | succ i => exact ⟨w, ws.eraseIdx i, rfl, h1, RVs.erase i h2⟩
theorem RVs.dropLast {gs : List GV} {vs : List V} (h : RVs K cid ρ U H gs vs) : RVs K cid ρ U H gs.dropLast vs.dropLast := by
  rw [List.dropLast_eq_take, List.dropLast_eq_take, ← RVs.length h]
  exact RVs.take _ h
theorem RVs.one {g : GV} {v : V} (h : RV K cid ρ U H g v) : RVs K cid ρ U H [g] [v] := ⟨v, [], rfl, h, rfl⟩
theorem RVs.ints : ∀ {gs : List GV} {vs : List V} {ns : List Int}, RVs K cid ρ U H gs vs → intsG gs = some ns → vs = ns.map V.int
  | [], _, _, h, e => by cases (show _ = [] from h); cases e; rfl
  | g :: gs, vs, ns, h, e => by
    obtain ⟨w, ws, e1, h1, h2⟩ := (show ∃ w ws, vs = w :: ws ∧ RV K cid ρ U H g w ∧ RVs K cid ρ U H gs ws from h)
    subst e1
    cases g with
    | int i =>
      cases q : intsG gs with
      | none => simp [intsG, q] at e
      | some ms =>
        simp [intsG, q] at e
        subst e
        cases (show w = .int i from h1)
        rw [RVs.ints h2 q]
        rfl
    | _ => simp [intsG] at e
theorem RVs.bools : ∀ {gs : List GV} {vs : List V} {ns : List Bool}, RVs K cid ρ U H gs vs → boolsG gs = some ns → vs = ns.map V.bl
  | [], _, _, h, e => by cases (show _ = [] from h); cases e; rfl
  | g :: gs, vs, ns, h, e => by
    obtain ⟨w, ws, e1, h1, h2⟩ := (show ∃ w ws, vs = w :: ws ∧ RV K cid ρ U H g w ∧ RVs K cid ρ U H gs ws from h)
    subst e1
    cases g with
    | bl i =>
      cases q : boolsG gs with
      | none => simp [boolsG, q] at e
      | some ms =>
        simp [boolsG, q] at e
        subst e
        cases (show w = .bl i from h1)
        rw [RVs.bools h2 q]
        rfl
    | _ => simp [boolsG] at e
theorem RVs.strs : ∀ {gs : List GV} {vs : List V} {ns : List Str}, RVs K cid ρ U H gs vs → strs' gs = some ns → vs = ns.map V.str
  | [], _, _, h, e => by cases (show _ = [] from h); cases e; rfl
  | g :: gs, vs, ns, h, e => by
    obtain ⟨w, ws, e1, h1, h2⟩ := (show ∃ w ws, vs = w :: ws ∧ RV K cid ρ U H g w ∧ RVs K cid ρ U H gs ws from h)
    subst e1
    cases g with
    | str i =>
      cases q : strs' gs with
      | none => simp [strs', q] at e
      | some ms =>
        simp [strs', q] at e
        subst e
        cases (show w = .str i from h1)
        rw [RVs.strs h2 q]
        rfl
    | _ => simp [strs'] at e
end

/-! ### the frame and the ghost heap -/
def MH (ρ : List Addr) (h : List GO) : AP := fun q => ∃ (a : Nat) (o : GO), h[a]? = some o ∧ o ≠ .gone ∧ ρ[a]? = some q
def MO (σr : St) (σ : List Sl) : AP := fun q => ∃ (i : Nat) (o : GO), σ[i]? = some (.own o) ∧ σr[i]? = some (some (.ref q))
def MM (ρ : List Addr) (σr : St) (s : GS) : AP := fun q => MH ρ s.h q ∨ MO σr s.σ q
def UU (ρ : List Addr) (Rs : AP) (σr : St) (s : GS) : AP := fun q => Rs q ∨ MM ρ σr s q
section
variable (K : PySem.W.Frag) (cid : Nat → Addr)
structure FSim (ρ : List Addr) (Rs : AP) (H : Hp) (σr : St) (s : GS) : Prop where
  len : s.h.length = ρ.length
  lens : s.σ.length = σr.length
  hp : ∀ (a : Nat) (o : GO) (p : Addr), s.h[a]? = some o → o ≠ .gone → ρ[a]? = some p → OR K cid ρ (UU ρ Rs σr s) H p o ∧ ¬ Rs p
  inj : ∀ (a b : Nat) (o o' : GO) (p : Addr), s.h[a]? = some o → o ≠ .gone → s.h[b]? = some o' → o' ≠ .gone → ρ[a]? = some p → ρ[b]? = some p → a = b
  sl : ∀ (i : Nat) (g : GV), s.σ[i]? = some (.val g) → ∃ v, σr[i]? = some (some v) ∧ RV K cid ρ (UU ρ Rs σr s) H g v
  ow : ∀ (i : Nat) (o : GO), s.σ[i]? = some (.own o) → ∃ p, σr[i]? = some (some (.ref p)) ∧ OR K cid ρ (UU ρ Rs σr s) H p o ∧ ¬ Rs p ∧ ¬ MH ρ s.h p
  oinj : ∀ (i j : Nat) (o o' : GO) (p : Addr), s.σ[i]? = some (.own o) → s.σ[j]? = some (.own o') → σr[i]? = some (some (.ref p)) → σr[j]? = some (some (.ref p)) → i = j
  dom : ∀ p, Rs p → H p ≠ none
/-- an expression's value, at the moment -/
def EVR (ρ : List Addr) (U : AP) (H : Hp) (σr : St) : EV → V → Prop
  | .g g, v => RV K cid ρ U H g v
  | .slot i, v => σr[i]? = some (some v)
  | .new o, v => ∃ p, v = .ref p ∧ OR K cid ρ U H p o
end
/-- the new container's address -/
def Xv : EV → V → AP
  | .new _, .ref p => fun q => q = p
  | _, _ => fun _ => False
def Rx (Rs : AP) (x : EV) (v : V) : AP := fun q => Rs q ∨ Xv x v q

section
variable {K : PySem.W.Frag} {cid : Nat → Addr} {ρ ρ' : List Addr} {Rs Rs' : AP} {H H' : Hp} {σr : St} {s : GS}
theorem FSim.mdom (F : FSim K cid ρ Rs H σr s) {p : Addr} (h : MM ρ σr s p) : H p ≠ none := by
  rcases h with ⟨a, o, e, n, ea⟩ | ⟨i, o, e, ei⟩
  · obtain ⟨u, hu, _⟩ := OR.some (F.hp a o p e n ea).1
    rw [hu]; simp
  · obtain ⟨q, e2, r, _⟩ := F.ow i o e
    rw [ei] at e2; cases e2
    obtain ⟨u, hu, _⟩ := OR.some r
    rw [hu]; simp
theorem FSim.udom (F : FSim K cid ρ Rs H σr s) {p : Addr} (h : UU ρ Rs σr s p) : H p ≠ none := h.elim (F.dom p) F.mdom
/-- reserved and changed are apart -/
theorem FSim.apart (F : FSim K cid ρ Rs H σr s) {p : Addr} (h : MM ρ σr s p) : ¬ Rs p := by
  rcases h with ⟨a, o, e, n, ea⟩ | ⟨i, o, e, ei⟩
  · exact (F.hp a o p e n ea).2
  · obtain ⟨q, e2, _, r, _⟩ := F.ow i o e
    rw [ei] at e2; cases e2
    exact r
theorem FSim.weak (F : FSim K cid ρ Rs' H σr s) (h : ∀ p, Rs p → Rs' p) : FSim K cid ρ Rs H σr s := by
  have m : Mv ρ ρ (UU ρ Rs' σr s) (UU ρ Rs σr s) H H := Mv.less fun p z => z.imp (h p) fun z => z
  refine ⟨F.len, F.lens, fun a o p e n ea => ?_, F.inj, fun i g e => ?_, fun i o e => ?_, F.oinj, fun p z => F.dom p (h p z)⟩
  · obtain ⟨r, q⟩ := F.hp a o p e n ea
    exact ⟨OR.mv m rfl r, fun z => q (h p z)⟩
  · obtain ⟨v, e2, r⟩ := F.sl i g e
    exact ⟨v, e2, RV.mv m r⟩
  · obtain ⟨p, e2, r, q, q2⟩ := F.ow i o e
    exact ⟨p, e2, OR.mv m rfl r, fun z => q (h p z), q2⟩
theorem EVR.mv {x : EV} {v : V} {U U' : AP} (m : Mv ρ ρ' U U' H H') (hp : ∀ p, Xv x v p → H' p = H p) (h : EVR K cid ρ U H σr x v) : EVR K cid ρ' U' H' σr x v := by
  cases x with
  | g g => exact RV.mv m h
  | slot i => exact h
  | new o =>
    obtain ⟨p, rfl, r⟩ := h
    exact ⟨p, rfl, OR.mv m (hp p rfl) r⟩
theorem FSim.at_ (F : FSim K cid ρ Rs H σr s) {a : Nat} {o : GO} (e : s.h[a]? = some o) : ∃ p, ρ[a]? = some p := by
  have hl : a < s.h.length := (List.getElem?_eq_some_iff.mp e).1
  rw [F.len] at hl
  exact ⟨ρ[a], List.getElem?_eq_getElem hl⟩
/-- what a reader sees is there -/
theorem FSim.rdv (F : FSim K cid ρ Rs H σr s) {g : GV} {v : V} (h : RV K cid ρ (UU ρ Rs σr s) H g v) : VW K cid ρ (UU ρ Rs σr s) H (rdv s.h g) v := by
  cases g with
  | ref a =>
    obtain ⟨p, rfl, ea⟩ := (show ∃ p, v = .ref p ∧ ρ[a]? = some p from h)
    show VW K cid ρ _ H (match s.h[a]? with
      | some o => o.vw a
      | none => .ref a) _
    cases q : s.h[a]? with
    | none => exact ⟨p, rfl, ea⟩
    | some o =>
      cases o with
      | gone => exact ⟨p, rfl, ea⟩
      | ins c fs => exact ⟨p, rfl, ea⟩
      | lst xs => exact OR.vw (F.hp a _ p q (by intro z; cases z) ea).1
      | dct kvs => exact OR.vw (F.hp a _ p q (by intro z; cases z) ea).1
  | _ => exact RV.vw h
theorem FSim.rd (F : FSim K cid ρ Rs H σr s) {x : EV} {v : V} (h : EVR K cid ρ (UU ρ Rs σr s) H σr x v) : VW K cid ρ (UU ρ Rs σr s) H (rd s x) v := by
  cases x with
  | g g => exact F.rdv h
  | new o =>
    obtain ⟨p, rfl, r⟩ := h
    exact OR.vw r
  | slot i =>
    have hv : σr[i]? = some (some v) := h
    show VW K cid ρ _ H (match s.σ[i]? with
      | some (.own o) => o.fz
      | some (.val v) => GI.rdv s.h v
      | _ => .unk) v
    cases q : s.σ[i]? with
    | none => exact True.intro
    | some z =>
      cases z with
      | no => exact True.intro
      | val g =>
        obtain ⟨v', e, r⟩ := F.sl i g q
        rw [hv] at e; cases e
        exact F.rdv r
      | own o =>
        obtain ⟨p, e, r, _⟩ := F.ow i o q
        rw [hv] at e; cases e
        exact OR.vw r
end
end GI
set_option Elab.async false
set_option linter.all false
set_option maxRecDepth 100000
/-! GI.Mov: freezing, storing, changing, laying: the ghost state follows. -/
namespace GI
open PySem PySem.Spec PyProof.Rows L2
section
variable {K : PySem.W.Frag} {cid : Nat → Addr} {ρ ρ' ρ0 : List Addr} {Rs Rs' M0 : AP} {H H' H0 : Hp} {σr : St} {s : GS}

theorem FSim.un (F : FSim K cid ρ (fun q => Rs q ∨ False) H σr s) : FSim K cid ρ Rs H σr s := F.weak fun _ z => .inl z
/-- fewer things are reserved or changed -/
theorem FSim.less {σ' : List Sl} (F : FSim K cid ρ Rs H σr s) (hl : σ'.length = s.σ.length) (hv : ∀ (i : Nat) (g : GV), σ'[i]? = some (.val g) → s.σ[i]? = some (.val g) ∨ ∃ v, σr[i]? = some (some v) ∧ RV K cid ρ (UU ρ Rs σr { s with σ := σ' }) H g v)
    (ho : ∀ (i : Nat) (o : GO), σ'[i]? = some (.own o) → s.σ[i]? = some (.own o)) : FSim K cid ρ Rs H σr { s with σ := σ' } := by
  have hM : ∀ q, UU ρ Rs σr { s with σ := σ' } q → UU ρ Rs σr s q := fun q z => by
    rcases z with z | z | ⟨i, o, e, r⟩
    · exact .inl z
    · exact .inr (.inl z)
    · exact .inr (.inr ⟨i, o, ho i o e, r⟩)
  have m : Mv ρ ρ (UU ρ Rs σr s) (UU ρ Rs σr { s with σ := σ' }) H H := Mv.less hM
  refine ⟨F.len, by rw [← F.lens]; exact hl, fun a o p e n ea => ?_, F.inj, fun i g e => ?_, fun i o e => ?_, fun i j o o' p e e' => F.oinj i j o o' p (ho i o e) (ho j o' e'), F.dom⟩
  · obtain ⟨r, q⟩ := F.hp a o p e n ea
    exact ⟨OR.mv m rfl r, q⟩
  · rcases hv i g e with z | z
    · obtain ⟨v, e2, r⟩ := F.sl i g z
      exact ⟨v, e2, RV.mv m r⟩
    · exact z
  · obtain ⟨p, e2, r, q, q2⟩ := F.ow i o (ho i o e)
    exact ⟨p, e2, OR.mv m rfl r, q, q2⟩
theorem MM.less {σ' : List Sl} (ho : ∀ (i : Nat) (o : GO), σ'[i]? = some (.own o) → s.σ[i]? = some (.own o)) : ∀ q, MM ρ σr { s with σ := σ' } q → MM ρ σr s q := fun q z => by
  rcases z with z | ⟨i, o, e, r⟩
  · exact .inl z
  · exact .inr ⟨i, o, ho i o e, r⟩
theorem Ext.sub {A B B' : AP} (x : Ext ρ0 ρ A B H0 H) (h : ∀ q, B' q → B q) : Ext ρ0 ρ A B' H0 H := ⟨x.pre, x.keep, x.dom, fun p z => x.mb p (h p z)⟩
theorem Ext.add {A B B' : AP} (x : Ext ρ0 ρ A B H0 H) (h : ∀ q, B' q → B q ∨ H0 q = none) : Ext ρ0 ρ A B' H0 H := ⟨x.pre, x.keep, x.dom, fun p z => (h p z).elim (x.mb p) .inr⟩

/-- what is frozen -/
theorem FSim.fz {x : EV} {v : V} (F : FSim K cid ρ (Rx Rs x v) H σr s) (h : EVR K cid ρ (UU ρ (Rx Rs x v) σr s) H σr x v) (hx : ∀ q, Xv x v q → ¬ Rs q) :
    FSim K cid ρ Rs H σr (fz s x).2 ∧ RV K cid ρ (UU ρ Rs σr (fz s x).2) H (fz s x).1 v ∧ (∀ q, MM ρ σr (fz s x).2 q → MM ρ σr s q) ∧ (fz s x).2.h = s.h := by
  cases x with
  | g g =>
    have F1 : FSim K cid ρ Rs H σr s := F.weak fun _ z => .inl z
    have m : Mv ρ ρ (UU ρ (Rx Rs (.g g) v) σr s) (UU ρ Rs σr s) H H := Mv.less fun q z => z.imp .inl fun z => z
    exact ⟨F1, RV.mv m h, fun _ z => z, rfl⟩
  | new o =>
    obtain ⟨p, rfl, r⟩ := h
    have F1 : FSim K cid ρ Rs H σr s := F.weak fun _ z => .inl z
    have m : Mv ρ ρ (UU ρ (Rx Rs (.new o) (.ref p)) σr s) (UU ρ Rs σr s) H H := Mv.less fun q z => z.imp .inl fun z => z
    refine ⟨F1, OR.rv (fun z => ?_) (OR.mv m rfl r), fun _ z => z, rfl⟩
    rcases z with z | z
    · exact hx p rfl z
    · exact F.apart z (.inr rfl)
  | slot i =>
    have F1 : FSim K cid ρ Rs H σr s := F.weak fun _ z => .inl z
    have hv : σr[i]? = some (some v) := h
    show FSim K cid ρ Rs H σr (match s.σ[i]? with
      | some (.own o) => (o.fz, { s with σ := s.σ.set i (.val o.fz) })
      | some (.val v) => (v, s)
      | _ => (.unk, s)).2 ∧ RV K cid ρ (UU ρ Rs σr (match s.σ[i]? with
      | some (.own o) => (o.fz, { s with σ := s.σ.set i (.val o.fz) })
      | some (.val v) => (v, s)
      | _ => (.unk, s)).2) H (match s.σ[i]? with
      | some (.own o) => (o.fz, { s with σ := s.σ.set i (.val o.fz) })
      | some (.val v) => (v, s)
      | _ => (.unk, s)).1 v ∧ (∀ q, MM ρ σr (match s.σ[i]? with
      | some (.own o) => (o.fz, { s with σ := s.σ.set i (.val o.fz) })
      | some (.val v) => (v, s)
      | _ => (.unk, s)).2 q → MM ρ σr s q) ∧ (match s.σ[i]? with
      | some (.own o) => (o.fz, { s with σ := s.σ.set i (.val o.fz) })
      | some (.val v) => (v, s)
      | _ => (.unk, s)).2.h = s.h
    cases q : s.σ[i]? with
    | none => exact ⟨F1, True.intro, fun _ z => z, rfl⟩
    | some z =>
      cases z with
      | no => exact ⟨F1, True.intro, fun _ z => z, rfl⟩
      | val g =>
        obtain ⟨v', e, r⟩ := F1.sl i g q
        rw [hv] at e; cases e
        exact ⟨F1, r, fun _ z => z, rfl⟩
      | own o =>
        obtain ⟨p, e, r, n1, n2⟩ := F1.ow i o q
        rw [hv] at e; cases e
        have hi : i < s.σ.length := (List.getElem?_eq_some_iff.mp q).1
        have ho : ∀ (j : Nat) (o' : GO), (s.σ.set i (.val o.fz))[j]? = some (.own o') → s.σ[j]? = some (.own o') := fun j o' e => by
          by_cases z : j = i
          · subst z; rw [List.getElem?_set_self hi] at e; cases e
          · rw [List.getElem?_set_ne (Ne.symm z)] at e; exact e
        have m : Mv ρ ρ (UU ρ Rs σr s) (UU ρ Rs σr { s with σ := s.σ.set i (.val o.fz) }) H H := Mv.less fun q z => z.imp (fun z => z) (MM.less ho q)
        have r2 : RV K cid ρ (UU ρ Rs σr { s with σ := s.σ.set i (.val o.fz) }) H o.fz (.ref p) := OR.rv (fun z => by
          rcases z with z | z | ⟨j, o', e1, e2⟩
          · exact n1 z
          · exact n2 z
          · have e3 := ho j o' e1
            have := F1.oinj j i o' o p e3 q e2 hv
            subst this
            rw [List.getElem?_set_self hi] at e1; cases e1) (OR.mv m rfl r)
        refine ⟨F1.less (by simp) (fun j g e => ?_) ho, r2, MM.less ho, rfl⟩
        by_cases z : j = i
        · subst z
          rw [List.getElem?_set_self hi] at e; cases e
          exact .inr ⟨_, hv, r2⟩
        · rw [List.getElem?_set_ne (Ne.symm z)] at e; exact .inl e
theorem FSim.lt {i : Nat} {v : V} (F : FSim K cid ρ Rs H σr s) (h : σr[i]? = some (some v)) : i < s.σ.length := by
  rw [F.lens]; exact (List.getElem?_eq_some_iff.mp h).1
/-- a slot holds a value -/
theorem FSim.setv {i : Nat} {g : GV} {v : V} (F : FSim K cid ρ Rs H σr s) (r : RV K cid ρ (UU ρ Rs σr s) H g v) :
    FSim K cid ρ Rs H (σr.set i (some v)) { s with σ := s.σ.set i (.val g) } ∧ ∀ q, MM ρ (σr.set i (some v)) { s with σ := s.σ.set i (.val g) } q → MM ρ σr s q := by
  have ow : ∀ (j : Nat) (o : GO), (s.σ.set i (.val g))[j]? = some (.own o) → j ≠ i ∧ s.σ[j]? = some (.own o) := fun j o e => by
    by_cases z : j = i
    · subst z
      by_cases hi : j < s.σ.length
      · rw [List.getElem?_set_self hi] at e; cases e
      · rw [List.getElem?_eq_none (by simp; omega)] at e; cases e
    · rw [List.getElem?_set_ne (Ne.symm z)] at e; exact ⟨z, e⟩
  have hM : ∀ q, MM ρ (σr.set i (some v)) { s with σ := s.σ.set i (.val g) } q → MM ρ σr s q := fun q z => by
    rcases z with z | ⟨j, o, e, r⟩
    · exact .inl z
    · obtain ⟨n, e'⟩ := ow j o e
      rw [List.getElem?_set_ne (Ne.symm n)] at r
      exact .inr ⟨j, o, e', r⟩
  have m : Mv ρ ρ (UU ρ Rs σr s) (UU ρ Rs (σr.set i (some v)) { s with σ := s.σ.set i (.val g) }) H H := Mv.less fun q z => z.imp (fun z => z) (hM q)
  refine ⟨⟨F.len, by simp [F.lens], fun a o p e n ea => ?_, F.inj, fun j g' e => ?_, fun j o e => ?_, fun j k o o' p e e' r r' => ?_, F.dom⟩, hM⟩
  · obtain ⟨r, q⟩ := F.hp a o p e n ea
    exact ⟨OR.mv m rfl r, q⟩
  · by_cases z : j = i
    · subst z
      have hi : j < s.σ.length := by
        have := (List.getElem?_eq_some_iff.mp e).1
        simpa using this
      have e' : (s.σ.set j (.val g))[j]? = some (.val g') := e
      rw [List.getElem?_set_self hi] at e'; cases e'
      exact ⟨v, List.getElem?_set_self (by rw [← F.lens]; exact hi), RV.mv m r⟩
    · have e' : (s.σ.set i (.val g))[j]? = some (.val g') := e
      rw [List.getElem?_set_ne (Ne.symm z)] at e'
      obtain ⟨v', e2, r'⟩ := F.sl j g' e'
      exact ⟨v', by rw [List.getElem?_set_ne (Ne.symm z)]; exact e2, RV.mv m r'⟩
  · obtain ⟨n, e'⟩ := ow j o e
    obtain ⟨p, e2, r', q, q2⟩ := F.ow j o e'
    exact ⟨p, by rw [List.getElem?_set_ne (Ne.symm n)]; exact e2, OR.mv m rfl r', q, q2⟩
  · obtain ⟨n, e1⟩ := ow j o e
    obtain ⟨n', e1'⟩ := ow k o' e'
    rw [List.getElem?_set_ne (Ne.symm n)] at r
    rw [List.getElem?_set_ne (Ne.symm n')] at r'
    exact F.oinj j k o o' p e1 e1' r r'
/-- a slot takes a container just made -/
theorem FSim.seto {i : Nat} {o : GO} {p : Addr} (F : FSim K cid ρ (fun q => Rs q ∨ q = p) H σr s) (r : OR K cid ρ (UU ρ (fun q => Rs q ∨ q = p) σr s) H p o) (hn : ¬ Rs p) :
    FSim K cid ρ Rs H (σr.set i (some (.ref p))) { s with σ := s.σ.set i (.own o) } ∧ ∀ q, MM ρ (σr.set i (some (.ref p))) { s with σ := s.σ.set i (.own o) } q → MM ρ σr s q ∨ q = p := by
  have np : ¬ MM ρ σr s p := fun z => F.apart z (.inr rfl)
  have ow : ∀ (j : Nat) (o' : GO), (s.σ.set i (.own o))[j]? = some (.own o') → (j = i ∧ o' = o ∧ i < s.σ.length) ∨ (j ≠ i ∧ s.σ[j]? = some (.own o')) := fun j o' e => by
    by_cases z : j = i
    · subst z
      by_cases hi : j < s.σ.length
      · rw [List.getElem?_set_self hi] at e; cases e; exact .inl ⟨rfl, rfl, hi⟩
      · rw [List.getElem?_eq_none (by simp; omega)] at e; cases e
    · rw [List.getElem?_set_ne (Ne.symm z)] at e; exact .inr ⟨z, e⟩
  have hM : ∀ q, MM ρ (σr.set i (some (.ref p))) { s with σ := s.σ.set i (.own o) } q → MM ρ σr s q ∨ q = p := fun q z => by
    rcases z with z | ⟨j, o', e, rr⟩
    · exact .inl (.inl z)
    · skip
      rcases ow j o' e with ⟨rfl, rfl, hi⟩ | ⟨n, e'⟩
      · rw [List.getElem?_set_self (by rw [← F.lens]; exact hi)] at rr; cases rr
        exact .inr rfl
      · rw [List.getElem?_set_ne (Ne.symm n)] at rr
        exact .inl (.inr ⟨j, o', e', rr⟩)
  have m : Mv ρ ρ (UU ρ (fun q => Rs q ∨ q = p) σr s) (UU ρ Rs (σr.set i (some (.ref p))) { s with σ := s.σ.set i (.own o) }) H H := Mv.less fun q z => by
    rcases z with z | z
    · exact .inl (.inl z)
    · rcases hM q z with z | z
      · exact .inr z
      · exact .inl (.inr z)
  refine ⟨⟨F.len, by simp [F.lens], fun a o' p' e n ea => ?_, F.inj, fun j g' e => ?_, fun j o' e => ?_, fun j k o1 o2 p' e e' r1 r2 => ?_, fun q z => F.dom q (.inl z)⟩, hM⟩
  · obtain ⟨r, q⟩ := F.hp a o' p' e n ea
    exact ⟨OR.mv m rfl r, fun z => q (.inl z)⟩
  · by_cases z : j = i
    · subst z
      have hi : j < s.σ.length := by
        have := (List.getElem?_eq_some_iff.mp e).1
        simpa using this
      have e' : (s.σ.set j (.own o))[j]? = some (.val g') := e
      rw [List.getElem?_set_self hi] at e'; cases e'
    · have e' : (s.σ.set i (.own o))[j]? = some (.val g') := e
      rw [List.getElem?_set_ne (Ne.symm z)] at e'
      obtain ⟨v', e2, r'⟩ := F.sl j g' e'
      exact ⟨v', by rw [List.getElem?_set_ne (Ne.symm z)]; exact e2, RV.mv m r'⟩
  · rcases ow j o' e with ⟨rfl, rfl, hi⟩ | ⟨n, e'⟩
    · exact ⟨p, List.getElem?_set_self (by rw [← F.lens]; exact hi), OR.mv m rfl r, hn, fun z => np (.inl z)⟩
    · obtain ⟨p', e2, r', q, q2⟩ := F.ow j o' e'
      exact ⟨p', by rw [List.getElem?_set_ne (Ne.symm n)]; exact e2, OR.mv m rfl r', fun z => q (.inl z), q2⟩
  · rcases ow j o1 e with ⟨rfl, rfl, hi⟩ | ⟨n, e1⟩
    · rw [List.getElem?_set_self (by rw [← F.lens]; exact hi)] at r1; cases r1
      rcases ow k o2 e' with ⟨rfl, rfl, hi2⟩ | ⟨n', e1'⟩
      · rfl
      · rw [List.getElem?_set_ne (Ne.symm n')] at r2
        exact (np (.inr ⟨k, o2, e1', r2⟩)).elim
    · rw [List.getElem?_set_ne (Ne.symm n)] at r1
      rcases ow k o2 e' with ⟨rfl, rfl, hi2⟩ | ⟨n', e1'⟩
      · rw [List.getElem?_set_self (by rw [← F.lens]; exact hi2)] at r2; cases r2
        exact (np (.inr ⟨j, o1, e1, r1⟩)).elim
      · rw [List.getElem?_set_ne (Ne.symm n')] at r2
        exact F.oinj j k o1 o2 p' e1 e1' r1 r2
/-- a container just made comes to the ghost heap -/
theorem FSim.lay {o : GO} {p : Addr} (F : FSim K cid ρ (fun q => Rs q ∨ q = p) H σr s) (r : OR K cid ρ (UU ρ (fun q => Rs q ∨ q = p) σr s) H p o) (hn : ¬ Rs p) :
    FSim K cid (ρ ++ [p]) Rs H σr { s with h := s.h ++ [o] } ∧ ∀ q, MM (ρ ++ [p]) σr { s with h := s.h ++ [o] } q → MM ρ σr s q ∨ q = p := by
  have np : ¬ MM ρ σr s p := fun z => F.apart z (.inr rfl)
  have hl := F.len
  have hp : ∀ (a : Nat) (o' : GO) (q : Addr), (s.h ++ [o])[a]? = some o' → (ρ ++ [p])[a]? = some q → (s.h[a]? = some o' ∧ ρ[a]? = some q) ∨ (a = s.h.length ∧ o' = o ∧ q = p) := fun a o' q e e' => by
    by_cases z : a < s.h.length
    · rw [List.getElem?_append_left z] at e
      rw [List.getElem?_append_left (by rw [← hl]; exact z)] at e'
      exact .inl ⟨e, e'⟩
    · rw [List.getElem?_append_right (by omega)] at e
      rw [List.getElem?_append_right (by rw [← hl]; omega)] at e'
      have z0 : a - s.h.length = 0 := by
        have := (List.getElem?_eq_some_iff.mp e).1
        simp only [List.length_singleton] at this
        omega
      rw [z0] at e
      rw [← hl, z0] at e'
      exact .inr ⟨by omega, (Option.some.inj e).symm, (Option.some.inj e').symm⟩
  have hM : ∀ q, MM (ρ ++ [p]) σr { s with h := s.h ++ [o] } q → MM ρ σr s q ∨ q = p := fun q z => by
    rcases z with ⟨a, o', e, n, e'⟩ | z
    · rcases hp a o' q e e' with ⟨h1, h2⟩ | ⟨_, _, h3⟩
      · exact .inl (.inl ⟨a, o', h1, n, h2⟩)
      · exact .inr h3
    · exact .inl (.inr z)
  have m : Mv ρ (ρ ++ [p]) (UU ρ (fun q => Rs q ∨ q = p) σr s) (UU (ρ ++ [p]) Rs σr { s with h := s.h ++ [o] }) H H := ⟨fun a q e => by
    have := (List.getElem?_eq_some_iff.mp e).1
    rw [List.getElem?_append_left this]; exact e, fun _ _ _ h => h, fun q _ n _ z => n (by
      rcases z with z | z
      · exact .inl (.inl z)
      · rcases hM q z with z | z
        · exact .inr z
        · exact .inl (.inr z))⟩
  refine ⟨⟨by simp [hl], F.lens, fun a o' q e n e' => ?_, fun a b o1 o2 q e n e1 n1 r1 r2 => ?_, fun i g e => ?_, fun i o' e => ?_, F.oinj, fun q z => F.dom q (.inl z)⟩, hM⟩
  · rcases hp a o' q e e' with ⟨h1, h2⟩ | ⟨_, rfl, rfl⟩
    · obtain ⟨r, z⟩ := F.hp a o' q h1 n h2
      exact ⟨OR.mv m rfl r, fun y => z (.inl y)⟩
    · exact ⟨OR.mv m rfl r, hn⟩
  · rcases hp a o1 q e r1 with ⟨h1, h2⟩ | ⟨h0, h1, h2⟩
    · rcases hp b o2 q e1 r2 with ⟨h3, h4⟩ | ⟨h3, h4, h5⟩
      · exact F.inj a b o1 o2 q h1 n h3 n1 h2 h4
      · rw [h5] at h2
        exact (np (.inl ⟨a, o1, h1, n, h2⟩)).elim
    · rcases hp b o2 q e1 r2 with ⟨h3, h4⟩ | ⟨h3, h4, h5⟩
      · rw [h2] at h4
        exact (np (.inl ⟨b, o2, h3, n1, h4⟩)).elim
      · omega
  · obtain ⟨v, e2, r'⟩ := F.sl i g e
    exact ⟨v, e2, RV.mv m r'⟩
  · obtain ⟨p', e2, r', q, q2⟩ := F.ow i o' e
    refine ⟨p', e2, OR.mv m rfl r', fun z => q (.inl z), fun z => ?_⟩
    obtain ⟨a, o1, e3, n3, e4⟩ := z
    rcases hp a o1 p' e3 e4 with ⟨h1, h2⟩ | ⟨_, _, h3⟩
    · exact q2 ⟨a, o1, h1, n3, h2⟩
    · rw [h3] at e2
      exact np (.inr ⟨i, o', e, e2⟩)

theorem ext_upd {p : Addr} {u : HO} {A B : AP} (hp : A p) (hs : ∀ q, B q → A q) : Ext ρ ρ A B H (upd H p u) :=
  ⟨⟨[], by simp⟩, fun q o n h => by rw [upd_ne (fun z => n (by rw [z]; exact hp))]; exact h, fun q h => by
    by_cases z : q = p
    · rw [z, upd_same]; simp
    · rw [upd_ne z]; exact h, fun q h => .inl (hs q h)⟩
/-- a container is changed in its place -/
theorem FSim.ch {x : EV} {v : V} {o : GO} (F : FSim K cid ρ Rs H σr s) (h : EVR K cid ρ (UU ρ Rs σr s) H σr x v) (e : cont s x = some o) (n : o ≠ .gone) :
    ∃ p, v = .ref p ∧ OR K cid ρ (UU ρ Rs σr s) H p o ∧ MM ρ σr s p ∧ ∀ (u : HO) (o' : GO), o' ≠ .gone →
      Mv ρ ρ (UU ρ Rs σr s) (UU ρ Rs σr (recont s x o')) H (upd H p u) ∧ (∀ q, MM ρ σr (recont s x o') q → MM ρ σr s q) ∧
        (OR K cid ρ (UU ρ Rs σr (recont s x o')) (upd H p u) p o' → FSim K cid ρ Rs (upd H p u) σr (recont s x o')) := by
  cases x with
  | new _ => cases e
  | slot i =>
    have hv : σr[i]? = some (some v) := h
    have q : s.σ[i]? = some (.own o) := by
      revert e
      show (match s.σ[i]? with
        | some (.own o) => some o
        | _ => none) = some o → _
      cases s.σ[i]? with
      | none => intro z; cases z
      | some z => cases z <;> intro y <;> cases y; rfl
    obtain ⟨p, e1, r, n1, n2⟩ := F.ow i o q
    rw [hv] at e1; cases e1
    have hm : MM ρ σr s p := .inr ⟨i, o, q, hv⟩
    refine ⟨p, rfl, r, hm, fun u o' no => ?_⟩
    have hi : i < s.σ.length := (List.getElem?_eq_some_iff.mp q).1
    have ow : ∀ (j : Nat) (o2 : GO), (s.σ.set i (.own o'))[j]? = some (.own o2) → (j = i ∧ o2 = o') ∨ (j ≠ i ∧ s.σ[j]? = some (.own o2)) := fun j o2 e => by
      by_cases z : j = i
      · subst z; rw [List.getElem?_set_self hi] at e; cases e; exact .inl ⟨rfl, rfl⟩
      · rw [List.getElem?_set_ne (Ne.symm z)] at e; exact .inr ⟨z, e⟩
    have own : ∀ (j : Nat) (o2 : GO), (s.σ.set i (.own o'))[j]? = some (.own o2) → ∃ o3, s.σ[j]? = some (.own o3) := fun j o2 e => by
      rcases ow j o2 e with ⟨rfl, _⟩ | ⟨_, z⟩
      · exact ⟨o, q⟩
      · exact ⟨o2, z⟩
    have hM : ∀ y, MM ρ σr { s with σ := s.σ.set i (.own o') } y → MM ρ σr s y := fun y z => by
      rcases z with z | ⟨j, o2, e, rr⟩
      · exact .inl z
      · obtain ⟨o3, e3⟩ := own j o2 e
        exact .inr ⟨j, o3, e3, rr⟩
    have m : Mv ρ ρ (UU ρ Rs σr s) (UU ρ Rs σr { s with σ := s.σ.set i (.own o') }) H (upd H p u) :=
      ⟨fun _ _ h => h, fun y w ny hy => by rw [upd_ne (fun z => ny (by rw [z]; exact .inr hm))]; exact hy, fun y w ny _ z => ny (z.imp (fun z => z) (hM y))⟩
    refine ⟨m, hM, fun r' => ⟨F.len, (by show (s.σ.set i (.own o')).length = σr.length; rw [List.length_set]; exact F.lens), fun a o2 p' e n ea => ?_, F.inj, fun j g' e => ?_, fun j o2 e => ?_, fun j k o1 o2 p' e e' r1 r2 => ?_, fun y z => ?_⟩⟩
    · obtain ⟨rr, y⟩ := F.hp a o2 p' e n ea
      have np : p' ≠ p := fun z => n2 ⟨a, o2, e, n, by rw [← z]; exact ea⟩
      exact ⟨OR.mv m (upd_ne np) rr, y⟩
    · by_cases z : j = i
      · subst z
        have e' : (s.σ.set j (.own o'))[j]? = some (.val g') := e
        rw [List.getElem?_set_self hi] at e'; cases e'
      · have e' : (s.σ.set i (.own o'))[j]? = some (.val g') := e
        rw [List.getElem?_set_ne (Ne.symm z)] at e'
        obtain ⟨v', e2, rr⟩ := F.sl j g' e'
        exact ⟨v', e2, RV.mv m rr⟩
    · rcases ow j o2 e with ⟨rfl, rfl⟩ | ⟨nj, e'⟩
      · exact ⟨p, hv, r', n1, n2⟩
      · obtain ⟨p', e2, rr, y, y2⟩ := F.ow j o2 e'
        have np : p' ≠ p := fun z => nj (F.oinj j i o2 o p' e' q e2 (by rw [z]; exact hv))
        exact ⟨p', e2, OR.mv m (upd_ne np) rr, y, y2⟩
    · obtain ⟨o3, e3⟩ := own j o1 e
      obtain ⟨o4, e4⟩ := own k o2 e'
      exact F.oinj j k o3 o4 p' e3 e4 r1 r2
    · by_cases zz : y = p
      · rw [zz, upd_same]; simp
      · rw [upd_ne zz]; exact F.dom y z
  | g g =>
    cases g with
    | ref a =>
      have q : s.h[a]? = some o := e
      obtain ⟨p, rfl, ea⟩ := (show ∃ p, v = .ref p ∧ ρ[a]? = some p from h)
      obtain ⟨r, n1⟩ := F.hp a o p q n ea
      have hm : MM ρ σr s p := .inl ⟨a, o, q, n, ea⟩
      refine ⟨p, rfl, r, hm, fun u o' no => ?_⟩
      have hi : a < s.h.length := (List.getElem?_eq_some_iff.mp q).1
      have hw : ∀ (b : Nat) (o2 : GO), (s.h.set a o')[b]? = some o2 → o2 ≠ .gone → (b = a ∧ o2 = o') ∨ (b ≠ a ∧ s.h[b]? = some o2) := fun b o2 e _ => by
        by_cases z : b = a
        · subst z; rw [List.getElem?_set_self hi] at e; cases e; exact .inl ⟨rfl, rfl⟩
        · rw [List.getElem?_set_ne (Ne.symm z)] at e; exact .inr ⟨z, e⟩
      have hwn : ∀ (b : Nat) (o2 : GO), (s.h.set a o')[b]? = some o2 → o2 ≠ .gone → ∃ o3, s.h[b]? = some o3 ∧ o3 ≠ .gone := fun b o2 e n2 => by
        rcases hw b o2 e n2 with ⟨rfl, _⟩ | ⟨_, z⟩
        · exact ⟨o, q, n⟩
        · exact ⟨o2, z, n2⟩
      have hMH : ∀ y, MH ρ (s.h.set a o') y → MH ρ s.h y := fun y ⟨b, o2, e, n2, eb⟩ => by
        obtain ⟨o3, e3, n3⟩ := hwn b o2 e n2
        exact ⟨b, o3, e3, n3, eb⟩
      have hM : ∀ y, MM ρ σr { s with h := s.h.set a o' } y → MM ρ σr s y := fun y z => z.imp (hMH y) fun z => z
      have m : Mv ρ ρ (UU ρ Rs σr s) (UU ρ Rs σr { s with h := s.h.set a o' }) H (upd H p u) :=
        ⟨fun _ _ h => h, fun y w ny hy => by rw [upd_ne (fun z => ny (by rw [z]; exact .inr hm))]; exact hy, fun y w ny _ z => ny (z.imp (fun z => z) (hM y))⟩
      refine ⟨m, hM, fun r' => ⟨(by show (s.h.set a o').length = ρ.length; rw [List.length_set]; exact F.len), F.lens, fun b o2 p' e n2 eb => ?_, fun b c o1 o2 p' e1 m1 e2 m2 r1 r2 => ?_, fun j g' e => ?_, fun j o2 e => ?_, F.oinj, fun y z => ?_⟩⟩
      · rcases hw b o2 e n2 with ⟨rfl, rfl⟩ | ⟨nb, e'⟩
        · rw [ea] at eb; cases eb
          exact ⟨r', n1⟩
        · obtain ⟨rr, y⟩ := F.hp b o2 p' e' n2 eb
          have np : p' ≠ p := fun z => nb (F.inj b a o2 o p' e' n2 q n eb (by rw [z]; exact ea))
          exact ⟨OR.mv m (upd_ne np) rr, y⟩
      · obtain ⟨o3, e3, n3⟩ := hwn b o1 e1 m1
        obtain ⟨o4, e4, n4⟩ := hwn c o2 e2 m2
        exact F.inj b c o3 o4 p' e3 n3 e4 n4 r1 r2
      · obtain ⟨v', e2, rr⟩ := F.sl j g' e
        exact ⟨v', e2, RV.mv m rr⟩
      · obtain ⟨p', e2, rr, y, y2⟩ := F.ow j o2 e
        have np : p' ≠ p := fun z => y2 ⟨a, o, q, n, by rw [z]; exact ea⟩
        exact ⟨p', e2, OR.mv m (upd_ne np) rr, y, fun z => y2 (hMH _ z)⟩
      · by_cases zz : y = p
        · rw [zz, upd_same]; simp
        · rw [upd_ne zz]; exact F.dom y z
    | _ => cases e

/-! ### several values -/
def EVRs (K : PySem.W.Frag) (cid : Nat → Addr) (ρ : List Addr) (U : AP) (H : Hp) (σr : St) : List EV → List V → Prop
  | [], [] => True
  | x :: xs, v :: vs => EVR K cid ρ U H σr x v ∧ EVRs K cid ρ U H σr xs vs
  | _, _ => False
def Xs : List EV → List V → AP
  | x :: xs, v :: vs => fun q => Xv x v q ∨ Xs xs vs q
  | _, _ => fun _ => False
/-- the new ones are apart -/
def Dis : List EV → List V → Prop
  | x :: xs, v :: vs => (∀ q, Xv x v q → ¬ Xs xs vs q) ∧ Dis xs vs
  | _, _ => True
theorem EVRs.mv {U U' : AP} (m : Mv ρ ρ' U U' H H') : ∀ {xs : List EV} {vs : List V}, (∀ p, Xs xs vs p → H' p = H p) → EVRs K cid ρ U H σr xs vs → EVRs K cid ρ' U' H' σr xs vs
  | [], [], _, _ => True.intro
  | x :: xs, v :: vs, hp, h => ⟨EVR.mv m (fun p z => hp p (.inl z)) h.1, EVRs.mv m (fun p z => hp p (.inr z)) h.2⟩
  | [], _ :: _, _, h => h.elim
  | _ :: _, [], _, h => h.elim
theorem FSim.fzs : ∀ {xs : List EV} {vs : List V} {s : GS}, FSim K cid ρ (fun q => Rs q ∨ Xs xs vs q) H σr s → EVRs K cid ρ (UU ρ (fun q => Rs q ∨ Xs xs vs q) σr s) H σr xs vs → Dis xs vs → (∀ q, Xs xs vs q → ¬ Rs q) →
    FSim K cid ρ Rs H σr (GI.fzs s xs).2 ∧ RVs K cid ρ (UU ρ Rs σr (GI.fzs s xs).2) H (GI.fzs s xs).1 vs ∧ (∀ q, MM ρ σr (GI.fzs s xs).2 q → MM ρ σr s q) ∧ (GI.fzs s xs).2.h = s.h
  | [], [], s, F, _, _, _ => ⟨F.weak fun _ z => .inl z, rfl, fun _ z => z, rfl⟩
  | [], _ :: _, _, _, h, _, _ => h.elim
  | _ :: _, [], _, _, h, _, _ => h.elim
  | x :: xs, v :: vs, s, F, h, d, hx => by
    have F1 : FSim K cid ρ (Rx (fun q => Rs q ∨ Xs xs vs q) x v) H σr s := F.weak fun q z => by
      rcases z with (z | z) | z
      · exact .inl z
      · exact .inr (.inr z)
      · exact .inr (.inl z)
    have m1 : Mv ρ ρ (UU ρ (fun q => Rs q ∨ Xs (x :: xs) (v :: vs) q) σr s) (UU ρ (Rx (fun q => Rs q ∨ Xs xs vs q) x v) σr s) H H := Mv.less fun q z => by
      rcases z with ((z | z) | z) | z
      · exact .inl (.inl z)
      · exact .inl (.inr (.inr z))
      · exact .inl (.inr (.inl z))
      · exact .inr z
    obtain ⟨F2, r, hm, hh⟩ := FSim.fz (x := x) (v := v) F1 (EVR.mv m1 (fun _ _ => rfl) h.1) (fun q z y => by
      rcases y with y | y
      · exact hx q (.inl z) y
      · exact d.1 q z y)
    have m2 : Mv ρ ρ (UU ρ (fun q => Rs q ∨ Xs (x :: xs) (v :: vs) q) σr s) (UU ρ (fun q => Rs q ∨ Xs xs vs q) σr (GI.fz s x).2) H H := Mv.less fun q z => by
      rcases z with (z | z) | z
      · exact .inl (.inl z)
      · exact .inl (.inr (.inr z))
      · exact .inr (hm q z)
    obtain ⟨F3, rs, hm3, hh3⟩ := FSim.fzs (xs := xs) (vs := vs) F2 (EVRs.mv m2 (fun _ _ => rfl) h.2) d.2 (fun q z => hx q (.inr z))
    refine ⟨F3, ⟨v, vs, rfl, RV.mv (Mv.less fun q z => ?_) r, rs⟩, fun q z => hm q (hm3 q z), hh3.trans hh⟩
    rcases z with z | z
    · exact .inl (.inl z)
    · exact .inr (hm3 q z)
end
end GI
set_option Elab.async false
set_option linter.all false
set_option maxRecDepth 100000
/-! GI.Good: what a ghost run promises of the real one. -/
namespace GI
open PySem PySem.Spec PyProof.Rows L2
section
variable (K : PySem.W.Frag) (cid : Nat → Addr) (W : L2.WX) (σr : St)
def Good {α : Type} (ρ : List Addr) (Rs : AP) (H : Hp) (s : GS) (r : R α) (P : Hp → α → GS → List Addr → Hp → Prop) : Prop := match r with
  | .ok a s' => ∀ ρ' H', Ext ρ ρ' (MM ρ σr s) (MM ρ' σr s') H H' → P H a s' ρ' H'
  | .exc c fs s' => ∀ ρ' H' dd l, Ext ρ ρ' (MM ρ σr s) (MM ρ' σr s') H H' → FSim K cid ρ' Rs H' σr s' → H' dd = some (.xd l) → RFs K cid ρ' (UU ρ' Rs σr s') H' fs l → W (.ref (cid c)) (some dd) σr H'
  | .bad => False
def PostE (Rs : AP) (Q : VK) : Hp → EV → GS → List Addr → Hp → Prop := fun H0 x s' ρ' H' => ∀ v, (∀ q, Xv x v q → H0 q = none) → FSim K cid ρ' (Rx Rs x v) H' σr s' → EVR K cid ρ' (UU ρ' (Rx Rs x v) σr s') H' σr x v → Q v H'
def PostL (Rs : AP) (Q : List V → Hp → Prop) : Hp → List EV → GS → List Addr → Hp → Prop := fun H0 xs s' ρ' H' => ∀ vs, (∀ q, Xs xs vs q → H0 q = none) → Dis xs vs → FSim K cid ρ' (fun q => Rs q ∨ Xs xs vs q) H' σr s' →
  EVRs K cid ρ' (UU ρ' (fun q => Rs q ∨ Xs xs vs q) σr s') H' σr xs vs → Q vs H'
def PostB {α : Type} (Rs : AP) (Q : α → Hp → Prop) : Hp → α → GS → List Addr → Hp → Prop := fun _ b s' ρ' H' => FSim K cid ρ' Rs H' σr s' → Q b H'
/-- a later start is as good -/
def Up {α : Type} (P : Hp → α → GS → List Addr → Hp → Prop) : Prop := ∀ H H1 a s' ρ' H', (∀ p, H p ≠ none → H1 p ≠ none) → P H a s' ρ' H' → P H1 a s' ρ' H'
end
section
variable {K : PySem.W.Frag} {cid : Nat → Addr} {W : L2.WX} {σr : St} {ρ ρ1 ρ' : List Addr} {Rs Rs1 Rs2 : AP} {H H1 H' : Hp} {s s1 : GS}
theorem nn {H H1 : Hp} (h : ∀ p, H p ≠ none → H1 p ≠ none) {p : Addr} (z : H1 p = none) : H p = none := by
  cases q : H p with
  | none => rfl
  | some o => exact absurd z (h p (by rw [q]; simp))
theorem up_E {Q : VK} : Up (PostE K cid σr Rs Q) := fun _ _ _ _ _ _ h p v hx => p v fun q z => nn h (hx q z)
theorem up_L {Q : List V → Hp → Prop} : Up (PostL K cid σr Rs Q) := fun _ _ _ _ _ _ h p v hx => p v fun q z => nn h (hx q z)
theorem up_B {α : Type} {Q : α → Hp → Prop} : Up (PostB K cid σr Rs Q) := fun _ _ _ _ _ _ _ p => p
theorem Good.from {α : Type} {r : R α} {P : Hp → α → GS → List Addr → Hp → Prop} (hP : Up P) (x : Ext ρ ρ1 (MM ρ σr s) (MM ρ1 σr s1) H H1) (h : Good K cid W σr ρ Rs H s r P) : Good K cid W σr ρ1 Rs H1 s1 r P := by
  cases r with
  | ok a s' => exact fun ρ' H' y => hP H H1 a s' ρ' H' x.dom (h ρ' H' (x.trans y))
  | exc c fs s' => exact fun ρ' H' dd l y => h ρ' H' dd l (x.trans y)
  | bad => exact h
theorem Good.moreR {α : Type} {r : R α} {P : Hp → α → GS → List Addr → Hp → Prop} (hR : ∀ q, Rs q → Rs1 q) (h : Good K cid W σr ρ Rs H s r P) : Good K cid W σr ρ Rs1 H s r P := by
  cases r with
  | ok a s' => exact h
  | exc c fs s' => exact fun ρ' H' dd l y F e rr => h ρ' H' dd l y (F.weak hR) e (RFs.mv (Mv.less fun q z => z.imp (hR q) fun z => z) rr)
  | bad => exact h
theorem Good.imp {α : Type} {r : R α} {P P' : Hp → α → GS → List Addr → Hp → Prop} (h : Good K cid W σr ρ Rs H s r P) (hp : ∀ a s' ρ' H', Ext ρ ρ' (MM ρ σr s) (MM ρ' σr s') H H' → P H a s' ρ' H' → P' H a s' ρ' H') : Good K cid W σr ρ Rs H s r P' := by
  cases r with
  | ok a s' => exact fun ρ' H' y => hp a s' ρ' H' y (h ρ' H' y)
  | exc c fs s' => exact h
  | bad => exact h
theorem Good.bind {α β : Type} {r : R α} {f : α → GS → R β} {P : Hp → β → GS → List Addr → Hp → Prop} (hP : Up P) (h : Good K cid W σr ρ Rs H s (r.bind f) P) :
    Good K cid W σr ρ Rs H s r fun _ a s1 ρ1 H1 => Good K cid W σr ρ1 Rs H1 s1 (f a s1) P := by
  cases r with
  | ok a s' => exact fun ρ' H' y => Good.from hP y h
  | exc c fs s' => exact h
  | bad => exact h.elim
theorem Good.eq {α : Type} {r : R α} {P : Hp → α → GS → List Addr → Hp → Prop} (h : Good K cid W σr ρ Rs H s r P) : Good K cid W σr ρ Rs H s r fun H0 a s1 ρ1 H1 => r = .ok a s1 ∧ P H0 a s1 ρ1 H1 := by
  cases r with
  | ok a s' => exact fun ρ' H' y => ⟨rfl, h ρ' H' y⟩
  | exc c fs s' => exact h
  | bad => exact h.elim
theorem lift_good {α β : Type} {o : Option α} {f : α → GS → R β} {P : Hp → β → GS → List Addr → Hp → Prop} (h : Good K cid W σr ρ Rs H s (lift o s f) P) : ∃ a, o = some a ∧ Good K cid W σr ρ Rs H s (f a s) P := by
  cases o with
  | none => exact h.elim
  | some a => exact ⟨a, rfl, h⟩
/-- a plain value, nothing changed -/
theorem Good.val {g : GV} {v : V} {Q : VK} (h : Good K cid W σr ρ Rs H s (.ok (.g g) s) (PostE K cid σr Rs Q)) (F : FSim K cid ρ Rs H σr s) (r : RV K cid ρ (UU ρ Rs σr s) H g v) : Q v H :=
  h ρ H Ext.refl v (fun _ z => z.elim) (F.weak fun _ z => z.elim (fun z => z) fun z => z.elim) (RV.mv (Mv.less fun q z => by
    rcases z with (z | z) | z
    · exact .inl z
    · exact z.elim
    · exact .inr z) r)
theorem Good.valb {α : Type} {a : α} {Q : α → Hp → Prop} (h : Good K cid W σr ρ Rs H s (.ok a s) (PostB K cid σr Rs Q)) (F : FSim K cid ρ Rs H σr s) : Q a H :=
  h ρ H Ext.refl F
/-- a new object beside all -/
theorem FSim.fresh {p : Addr} {u : HO} (F : FSim K cid ρ Rs H σr s) (hp : H p = none) : FSim K cid ρ (fun q => Rs q ∨ q = p) (upd H p u) σr s ∧ Mv ρ ρ (UU ρ Rs σr s) (UU ρ (fun q => Rs q ∨ q = p) σr s) H (upd H p u) ∧ Ext ρ ρ (MM ρ σr s) (MM ρ σr s) H (upd H p u) := by
  have ne : ∀ q, H q ≠ none → q ≠ p := fun q h z => h (by rw [z]; exact hp)
  have m : Mv ρ ρ (UU ρ Rs σr s) (UU ρ (fun q => Rs q ∨ q = p) σr s) H (upd H p u) := ⟨fun _ _ h => h, fun q o _ h => by rw [upd_ne (ne q (by rw [h]; simp))]; exact h, fun q o n h z => by
    rcases z with (z | z) | z
    · exact n (.inl z)
    · exact ne q (by rw [h]; simp) z
    · exact n (.inr z)⟩
  refine ⟨⟨F.len, F.lens, fun a o q e n ea => ?_, F.inj, fun i g e => ?_, fun i o e => ?_, F.oinj, fun q z => ?_⟩, m, ⟨⟨[], by simp⟩, fun q o _ h => by rw [upd_ne (ne q (by rw [h]; simp))]; exact h, fun q h => by rw [upd_ne (ne q h)]; exact h, fun q z => .inl z⟩⟩
  · obtain ⟨r, z⟩ := F.hp a o q e n ea
    have nq : q ≠ p := ne q (F.mdom (.inl ⟨a, o, e, n, ea⟩))
    exact ⟨OR.mv m (upd_ne nq) r, fun y => y.elim z nq⟩
  · obtain ⟨v, e2, r⟩ := F.sl i g e
    exact ⟨v, e2, RV.mv m r⟩
  · obtain ⟨q, e2, r, z, z2⟩ := F.ow i o e
    have nq : q ≠ p := ne q (F.mdom (.inr ⟨i, o, e, e2⟩))
    exact ⟨q, e2, OR.mv m (upd_ne nq) r, fun y => y.elim z nq, z2⟩
  · rcases z with z | z
    · rw [upd_ne (ne q (F.dom q z))]; exact F.dom q z
    · rw [z, upd_same]; simp
/-- a new container -/
theorem Good.new {o : GO} {p : Addr} {u : HO} {Q : VK} (h : Good K cid W σr ρ Rs H s (.ok (.new o) s) (PostE K cid σr Rs Q)) (F : FSim K cid ρ Rs H σr s) (hp : H p = none)
    (r : ∀ ρ' U' H', Mv ρ ρ' (UU ρ Rs σr s) U' H H' → H' p = some u → OR K cid ρ' U' H' p o) : Q (.ref p) (upd H p u) := by
  obtain ⟨F', m, x⟩ := F.fresh (u := u) hp
  exact h ρ (upd H p u) x (.ref p) (fun q z => by rw [show q = p from z]; exact hp) (F'.weak fun q z => z) ⟨p, rfl, r _ _ _ m upd_same⟩
/-- a new object that never changes -/
theorem Good.newv {g : GV} {p : Addr} {u : HO} {Q : VK} (h : Good K cid W σr ρ Rs H s (.ok (.g g) s) (PostE K cid σr Rs Q)) (F : FSim K cid ρ Rs H σr s) (hp : H p = none)
    (r : ∀ ρ' U' H', Mv ρ ρ' (UU ρ Rs σr s) U' H H' → ¬ U' p → H' p = some u → RV K cid ρ' U' H' g (.ref p)) : Q (.ref p) (upd H p u) := by
  obtain ⟨F', m, x⟩ := F.fresh (u := u) hp
  refine h ρ (upd H p u) x (.ref p) (fun q z => z.elim) (F'.weak fun q z => z.elim .inl fun z => z.elim) (r _ _ _ ⟨m.ats, m.keep, fun q o n h z => n ?_⟩ (fun z => ?_) upd_same)
  · rcases z with (z | z) | z
    · exact .inl z
    · exact z.elim
    · exact .inr z
  · rcases z with (z | z) | z
    · exact F.dom p z hp
    · exact z.elim
    · exact F.mdom z hp
end
end GI
set_option Elab.async false
set_option linter.all false
set_option maxRecDepth 100000
/-! GI.Ops: the operators on values, each by the layer's rule. -/
namespace GI
open PySem PySem.Spec PyProof.Rows L2
section
variable {K : PySem.W.Frag} {cid : Nat → Addr} {W : L2.WX} {σr : St} {ρ : List Addr} {U : AP} {Rs Rs2 : AP} {H : Hp} {s : GS}
theorem RVs.less {U' : AP} {gs : List GV} {vs : List V} (h : RVs K cid ρ U H gs vs) (hu : ∀ p, U' p → U p) : RVs K cid ρ U' H gs vs := RVs.mv (Mv.less hu) h
theorem uu_less (hR : ∀ q, Rs q → Rs2 q) : ∀ q, UU ρ Rs σr s q → UU ρ Rs2 σr s q := fun q z => z.imp (hR q) fun z => z
mutual
theorem RV.dp : ∀ {g : GV} {v : V} {d : PyData}, RV K cid ρ U H g v → g.pd = some d → Dp K H v d
  | .non, _, _, h, e => by cases e; cases (show _ = V.non from h); exact .non
  | .bl b, _, _, h, e => by cases e; cases (show _ = V.bl b from h); exact .bl b
  | .int b, _, _, h, e => by cases e; cases (show _ = V.int b from h); exact .int b
  | .str b, _, _, h, e => by cases e; cases (show _ = V.str b from h); exact .str b
  | .lst xs, v, d, h, e => by
    obtain ⟨p, vs, rfl, n, hp, r⟩ := (show ∃ p vs, v = .ref p ∧ ¬ U p ∧ H p = some (.lst vs) ∧ RVs K cid ρ U H xs vs from h)
    have e' : (GV.pds xs).map PyData.list = some d := e
    cases q : GV.pds xs with
    | none => rw [q] at e'; cases e'
    | some ds =>
      rw [q] at e'
      have e2 : PyData.list ds = d := Option.some.inj e'
      subst e2
      exact .lst (SqL.of hp) (RVs.dp r q)
  | .tup xs, v, d, h, e => by
    obtain ⟨p, vs, rfl, hp, r⟩ := (show ∃ p vs, v = .ref p ∧ ((¬ U p ∧ H p = some (.tup vs)) ∨ KTup K p vs) ∧ RVs K cid ρ U H xs vs from h)
    have e' : (GV.pds xs).map PyData.tuple = some d := e
    cases q : GV.pds xs with
    | none => rw [q] at e'; cases e'
    | some ds =>
      rw [q] at e'
      have e2 : PyData.tuple ds = d := Option.some.inj e'
      subst e2
      refine .tup ?_ (RVs.dp r q)
      rcases hp with ⟨_, hp⟩ | hp
      · exact SqT.of hp
      · exact .inr hp
  | .scr _, _, _, _, e => by cases e
  | .dct _, _, _, _, e => by cases e
  | .obj _ _, _, _, _, e => by cases e
  | .exc _ _, _, _, _, e => by cases e
  | .ref _, _, _, _, e => by cases e
  | .unk, _, _, _, e => by cases e
theorem RVs.dp : ∀ {gs : List GV} {vs : List V} {ds : List PyData}, RVs K cid ρ U H gs vs → GV.pds gs = some ds → DpAll K H vs ds
  | [], _, _, h, e => by cases e; cases (show _ = [] from h); exact .nil
  | g :: gs, vs, ds, h, e => by
    obtain ⟨w, ws, rfl, h1, h2⟩ := (show ∃ w ws, vs = w :: ws ∧ RV K cid ρ U H g w ∧ RVs K cid ρ U H gs ws from h)
    have e' : (match GV.pd g, GV.pds gs with
      | some d, some ds => some (d :: ds)
      | _, _ => none) = some ds := e
    cases q1 : GV.pd g with
    | none => rw [q1] at e'; cases e'
    | some d =>
      cases q2 : GV.pds gs with
      | none => rw [q1, q2] at e'; cases e'
      | some es =>
        rw [q1, q2] at e'
        have e2 : d :: es = ds := Option.some.inj e'
        subst e2
        exact .cons (RV.dp h1 q1) (RVs.dp h2 q2)
end
theorem VW.dp {g : GV} {v : V} {d : PyData} (h : VW K cid ρ U H g v) (e : g.pd = some d) : Dp K H v d := by
  cases g with
  | lst xs =>
    obtain ⟨p, vs, rfl, hp, r⟩ := h
    have e' : (GV.pds xs).map PyData.list = some d := e
    cases q : GV.pds xs with
    | none => rw [q] at e'; cases e'
    | some ds =>
      rw [q] at e'
      have e2 : PyData.list ds = d := Option.some.inj e'
      subst e2
      exact .lst (SqL.of hp) (RVs.dp r q)
  | dct _ => cases e
  | obj _ _ => cases e
  | _ => exact RV.dp h e
mutual
theorem GV.pd_nodict : ∀ (g : GV) {d : PyData}, g.pd = some d → d.hasDict = false
  | .non, _, e => by cases e; rfl
  | .bl _, _, e => by cases e; rfl
  | .int _, _, e => by cases e; rfl
  | .str _, _, e => by cases e; rfl
  | .lst xs, d, e => by
    have e' : (GV.pds xs).map PyData.list = some d := e
    cases q : GV.pds xs with
    | none => rw [q] at e'; cases e'
    | some ds =>
      rw [q] at e'
      have e2 : PyData.list ds = d := Option.some.inj e'
      subst e2
      exact GV.pds_nodict xs q
  | .tup xs, d, e => by
    have e' : (GV.pds xs).map PyData.tuple = some d := e
    cases q : GV.pds xs with
    | none => rw [q] at e'; cases e'
    | some ds =>
      rw [q] at e'
      have e2 : PyData.tuple ds = d := Option.some.inj e'
      subst e2
      exact GV.pds_nodict xs q
  | .scr _, _, e => by cases e
  | .dct _, _, e => by cases e
  | .obj _ _, _, e => by cases e
  | .exc _ _, _, e => by cases e
  | .ref _, _, e => by cases e
  | .unk, _, e => by cases e
theorem GV.pds_nodict : ∀ (gs : List GV) {ds : List PyData}, GV.pds gs = some ds → PyData.hasDictAll ds = false
  | [], _, e => by cases e; rfl
  | g :: gs, ds, e => by
    have e' : (match GV.pd g, GV.pds gs with
      | some d, some ds => some (d :: ds)
      | _, _ => none) = some ds := e
    cases q1 : GV.pd g with
    | none => rw [q1] at e'; cases e'
    | some d =>
      cases q2 : GV.pds gs with
      | none => rw [q1, q2] at e'; cases e'
      | some es =>
        rw [q1, q2] at e'
        have e2 : d :: es = ds := Option.some.inj e'
        subst e2
        show (d.hasDict || PyData.hasDictAll es) = false
        rw [GV.pd_nodict g q1, GV.pds_nodict gs q2]; rfl
end
theorem VW.isN {g : GV} {v : V} {b : Bool} (h : VW K cid ρ U H g v) (e : GI.isN g = some b) : decide (v = V.non) = b := by
  cases g with
  | non => cases e; cases (show v = _ from h); rfl
  | bl _ => cases e; cases (show v = _ from h); rfl
  | int _ => cases e; cases (show v = _ from h); rfl
  | str _ => cases e; cases (show v = _ from h); rfl
  | lst _ => cases e; obtain ⟨p, vs, rfl, _⟩ := h; rfl
  | tup _ => cases e; obtain ⟨p, vs, rfl, _⟩ := h; rfl
  | scr _ => cases e; obtain ⟨p, rfl, _⟩ := h; rfl
  | dct _ => cases e; obtain ⟨p, rfl, _⟩ := h; rfl
  | obj _ _ => cases e; obtain ⟨p, dx, vs, rfl, _⟩ := h; rfl
  | ref _ => cases e; obtain ⟨p, rfl, _⟩ := h; rfl
  | exc _ _ => cases e
  | unk => cases e
theorem sqt {p : Addr} {vs : List V} (h : (¬ U p ∧ H p = some (.tup vs)) ∨ KTup K p vs) : SqT K H p vs := h.elim (fun z => SqT.of z.2) .inr

theorem rep_foldl : ∀ (k : Nat) (xs acc : Array Nat), (List.replicate k xs).foldl (· ++ ·) acc = acc ++ (List.replicate k xs.toList).flatten.toArray
  | 0, xs, acc => by simp
  | k + 1, xs, acc => by
    rw [List.replicate_succ, List.foldl_cons, rep_foldl k xs, List.replicate_succ, List.flatten_cons]
    apply Array.ext'
    simp
theorem rep_len (k : Nat) (xs : List Nat) : (List.replicate k xs).flatten.length = k * xs.length := by
  simp [List.length_flatten]
end

/-- two values in, one out -/
def Cons2 (K : PySem.W.Frag) (cid : Nat → Addr) (f : GV → GV → GS → R EV) : R2 := fun vx vy H Q => ∃ (W : L2.WX) (σr : St) (ρ : List Addr) (Rs Rs2 : AP) (s : GS) (x y : EV), (∀ q, Rs q → Rs2 q) ∧ FSim K cid ρ Rs2 H σr s ∧
  EVR K cid ρ (UU ρ Rs2 σr s) H σr x vx ∧ EVR K cid ρ (UU ρ Rs2 σr s) H σr y vy ∧ Good K cid W σr ρ Rs H s (f (rd s x) (rd s y) s) (PostE K cid σr Rs Q)
section
variable {X : Cx} {cid : Nat → Addr}
theorem op_mulS {pins : List (Addr × Obj)} {s : Shared} {σ : St} {H : Hp} {v u : Value} {Q : VK} {x : Str} {k : Int} (I : Inv X pins σ H s) (rx : RelV (.str x) v) (ry : RelV (.int k) u) (hz : lenOk (x.length * k.toNat)) (h1 : -(2 ^ 63) ≤ k) (h2 : k < 2 ^ 63)
    (q : Q (.str ⟨(List.replicate k.toNat x.cps.toList).flatten.toArray⟩) H) : wpAny (model X.prog X.w) X.A (binaryOp .Mult v u) (EP X pins σ Q) X.xe s := by
  obtain ⟨t, rfl⟩ := (show ∃ t, v = Value.str x t from rx)
  obtain ⟨t', rfl⟩ := (show ∃ t, u = Value.int k t from ry)
  have hz' : x.length * k.toNat ≤ sizeLine := hz
  have hl : sizeLine = 16777216 := sizeLine_eq
  refine PySem.P.mul_str ?_ (fun h3 _ => ?_) (fun h3 _ => ?_) ?_
  · rw [decide_eq_false (by omega), decide_eq_false (by omega)]; rfl
  · have hk : 0 < k := by omega
    have hk2 : (k.toNat : Int) = k := Int.toNat_of_nonneg (by omega)
    have h4 : (x.length : Int) * k ≤ 16777216 := by
      have h5 : ((x.length * k.toNat : Nat) : Int) ≤ 16777216 := by omega
      rw [Int.natCast_mul, hk2] at h5
      exact h5
    have h6 : (x.length : Int) ≤ (2 ^ 63 - 1) / k := by
      rw [Int.le_ediv_iff_mul_le hk]
      omega
    omega
  · show decide (x.length * k.toNat > sizeLine) = false
    exact decide_eq_false (by omega)
  · have e0 : ∀ (y : Str) (t : Tok) (s' : Shared), y = ⟨(List.replicate k.toNat x.cps.toList).flatten.toArray⟩ → Inv X pins σ H s' → EP X pins σ Q (.str y t) s' := fun y t s' e I' => by
      subst e
      exact ⟨.str _, H, I', ⟨t, rfl⟩, q⟩
    split
    · rename_i h3
      refine ⟨by decide, e0 _ _ _ ?_ (I.tok _)⟩
      have : k.toNat = 0 := by omega
      rw [this]; rfl
    · split
      · rename_i h3 h4
        refine e0 _ _ _ ?_ I
        rw [Bool.or_eq_true] at h4
        rcases h4 with h4 | h4
        · have : k = 1 := by simpa using h4
          subst this
          show x = ⟨(List.replicate 1 x.cps.toList).flatten.toArray⟩
          simp
        · have : x.cps = #[] := by
            have h5 : x.cps.size = 0 := by simpa [Str.length] using h4
            exact Array.eq_empty_of_size_eq_zero h5
          obtain ⟨c⟩ := x
          subst this
          simp
      · refine ⟨?_, e0 _ _ _ ?_ (I.tok _)⟩
        · show (Str.length _) ≤ sizeLine
          unfold Str.length
          rw [rep_foldl]
          have e1 : x.length = x.cps.toList.length := by simp [Str.length]
          have e2 : (#[] ++ (List.replicate k.toNat x.cps.toList).flatten.toArray).size = k.toNat * x.cps.toList.length := by
            rw [Array.empty_append, List.size_toArray, rep_len]
          rw [e2, ← e1, Nat.mul_comm]
          exact hz'
        · rw [rep_foldl]; simp
theorem op_bin (op : Operator) : OpR X (binaryOp op) (Cons2 X.K cid fun gx gy s => lift (binop op gx gy) s .ok) := by
  intro pins st σ H x y v u Q I rx ry h
  obtain ⟨W, σr, ρ, Rs, Rs2, s, ex, ey, hR, F, hx, hy, G⟩ := h
  have hvx := F.rd hx
  have hvy := F.rd hy
  have F1 : FSim X.K cid ρ Rs H σr s := F.weak hR
  obtain ⟨r, e, G⟩ := lift_good G
  generalize GI.rd s ex = gx at hvx e
  generalize GI.rd s ey = gy at hvy e
  unfold binop at e
  split at e
  · cases e; cases (show x = _ from hvx); cases (show y = _ from hvy)
    exact L2.op_add pins st σ H _ _ v u Q I rx ry ⟨_, _, rfl, rfl, G.val F1 rfl⟩
  · cases (show x = _ from hvx); cases (show y = _ from hvy)
    split at e
    · rename_i hz
      cases e
      exact L2.op_add_str pins st σ H _ _ v u Q I rx ry ⟨_, _, rfl, rfl, hz, G.val F1 rfl⟩
    · cases e
  · rename_i i j
    obtain ⟨p, vs, rfl, hp, rs⟩ := (show ∃ p vs, x = .ref p ∧ H p = some (.lst vs) ∧ RVs X.K cid ρ _ H i vs from hvx)
    obtain ⟨p', vs', rfl, hp', rs'⟩ := (show ∃ p vs, y = .ref p ∧ H p = some (.lst vs) ∧ RVs X.K cid ρ _ H j vs from hvy)
    split at e
    · rename_i hz
      cases e
      refine L2.op_cat pins st σ H _ _ v u Q I rx ry ⟨_, _, vs, vs', rfl, rfl, hp, hp', ?_, fun q hq => G.new F1 hq fun ρ' U' H' m e => ?_⟩
      · rw [← rs.length, ← rs'.length]; exact hz
      · exact ⟨_, e, RVs.append ((rs.less (uu_less hR)).mv m) ((rs'.less (uu_less hR)).mv m)⟩
    · cases e
  · rename_i i j
    obtain ⟨p, vs, rfl, hp, rs⟩ := (show ∃ p vs, x = .ref p ∧ ((¬ _ ∧ H p = some (.tup vs)) ∨ KTup X.K p vs) ∧ RVs X.K cid ρ _ H i vs from hvx)
    obtain ⟨p', vs', rfl, hp', rs'⟩ := (show ∃ p vs, y = .ref p ∧ ((¬ _ ∧ H p = some (.tup vs)) ∨ KTup X.K p vs) ∧ RVs X.K cid ρ _ H j vs from hvy)
    split at e
    · rename_i hz
      cases e
      refine L2.op_catT pins st σ H _ _ v u Q I rx ry ⟨_, _, vs, vs', rfl, rfl, sqt hp, sqt hp', ?_, ?_, fun e0 => ?_, fun _ q hq => G.newv F1 hq fun ρ' U' H' m nu e => ?_⟩
      · intro z
        have := rs.length
        rw [z] at this
        exact hz.2 (List.length_eq_zero_iff.mp this)
      · rw [← rs.length, ← rs'.length]; exact hz.1
      · have : j = [] := List.length_eq_zero_iff.mp (by rw [rs'.length, e0]; rfl)
        subst this
        refine G.val F1 ?_
        rw [List.append_nil]
        exact RV.mv (g := .tup i) (Mv.less (uu_less hR)) ⟨p, vs, rfl, hp, rs⟩
      · exact ⟨q, _, rfl, .inl ⟨nu, e⟩, RVs.append ((rs.less (uu_less hR)).mv m) ((rs'.less (uu_less hR)).mv m)⟩
    · cases e
  · cases e; cases (show x = _ from hvx); cases (show y = _ from hvy)
    exact L2.op_sub pins st σ H _ _ v u Q I rx ry ⟨_, _, rfl, rfl, G.val F1 rfl⟩
  · cases (show x = _ from hvx); cases (show y = _ from hvy)
    split at e
    · rename_i hz
      cases e
      exact L2.op_mul pins st σ H _ _ v u Q I rx ry ⟨_, _, rfl, rfl, hz, G.val F1 rfl⟩
    · cases e
  · cases (show x = _ from hvx); cases (show y = _ from hvy)
    split at e
    · rename_i hz
      cases e
      exact op_mulS I rx ry hz.1 hz.2.1 hz.2.2 (G.val F1 rfl)
    · cases e
  · cases (show x = _ from hvx); cases (show y = _ from hvy)
    split at e
    · rename_i hz
      cases e
      exact L2.op_mod pins st σ H _ _ v u Q I rx ry ⟨_, _, rfl, rfl, hz, G.val F1 rfl⟩
    · cases e
  · cases (show x = _ from hvx); cases (show y = _ from hvy)
    split at e
    · rename_i hz
      cases e
      exact L2.op_fdiv pins st σ H _ _ v u Q I rx ry ⟨_, _, rfl, rfl, hz, G.val F1 rfl⟩
    · cases e
  · cases (show x = _ from hvx); cases (show y = _ from hvy)
    split at e
    · rename_i hz
      cases e
      exact L2.op_pow pins st σ H _ _ v u Q I rx ry ⟨_, _, rfl, rfl, hz, G.val F1 rfl⟩
    · cases e
  · cases (show x = _ from hvx); cases (show y = _ from hvy)
    split at e
    · rename_i hz
      cases e
      exact L2.op_shl pins st σ H _ _ v u Q I rx ry ⟨_, _, rfl, rfl, hz, G.val F1 rfl⟩
    · cases e
  · cases (show x = _ from hvx); cases (show y = _ from hvy)
    split at e
    · rename_i hz
      cases e
      exact L2.op_shr pins st σ H _ _ v u Q I rx ry ⟨_, _, rfl, rfl, hz, G.val F1 rfl⟩
    · cases e
  · cases e; cases (show x = _ from hvx); cases (show y = _ from hvy)
    exact L2.op_and pins st σ H _ _ v u Q I rx ry ⟨_, _, rfl, rfl, G.val F1 rfl⟩
  · cases e; cases (show x = _ from hvx); cases (show y = _ from hvy)
    exact L2.op_or pins st σ H _ _ v u Q I rx ry ⟨_, _, rfl, rfl, G.val F1 rfl⟩
  · cases e; cases (show x = _ from hvx); cases (show y = _ from hvy)
    exact L2.op_xor pins st σ H _ _ v u Q I rx ry ⟨_, _, rfl, rfl, G.val F1 rfl⟩
  · cases e

/-- one value in -/
def Cons1 (K : PySem.W.Frag) (cid : Nat → Addr) (f : GV → GS → R EV) : V → Hp → VK → Prop := fun vx H Q => ∃ (W : L2.WX) (σr : St) (ρ : List Addr) (Rs Rs2 : AP) (s : GS) (x : EV), (∀ q, Rs q → Rs2 q) ∧ FSim K cid ρ Rs2 H σr s ∧
  EVR K cid ρ (UU ρ Rs2 σr s) H σr x vx ∧ Good K cid W σr ρ Rs H s (f (rd s x) s) (PostE K cid σr Rs Q)
theorem un_op (op : UnaryOp) : UnR X (unaryOp op) (Cons1 X.K cid fun gx s => lift (unop op gx) s fun v => .ok (.g v)) := by
  intro pins st σ H x v Q I rx h
  obtain ⟨W, σr, ρ, Rs, Rs2, s, ex, hR, F, hx, G⟩ := h
  have hvx := F.rd hx
  have F1 : FSim X.K cid ρ Rs H σr s := F.weak hR
  obtain ⟨r, e, G⟩ := lift_good G
  generalize GI.rd s ex = gx at hvx e
  unfold unop at e
  split at e
  · cases e; cases (show x = _ from hvx)
    exact L2.un_neg pins st σ H _ v Q I rx ⟨_, rfl, G.val F1 rfl⟩
  · cases e; cases (show x = _ from hvx)
    exact L2.un_inv pins st σ H _ v Q I rx ⟨_, rfl, G.val F1 rfl⟩
  · cases e
theorem op_cmp (hu : X.A.units + 65 < cLine) (op : CmpOp) : OpR X (compareOp op) (Cons2 X.K cid fun gx gy s => lift (cmpop op gx gy) s fun t => .ok (.g (.bl t))) := by
  intro pins st σ H x y v u Q I rx ry h
  obtain ⟨W, σr, ρ, Rs, Rs2, s, ex, ey, hR, F, hx, hy, G⟩ := h
  have hvx := F.rd hx
  have hvy := F.rd hy
  have F1 : FSim X.K cid ρ Rs H σr s := F.weak hR
  obtain ⟨r, e, G⟩ := lift_good G
  generalize GI.rd s ex = gx at hvx e
  generalize GI.rd s ey = gy at hvy e
  have hq : Q (.bl r) H := G.val F1 rfl
  have deep : ∀ b, geq gx gy = some b → ∃ d d', Dp X.K H x d ∧ Dp X.K H y d' ∧ SeqAt.shaped d = true ∧ SeqAt.shaped d' = true ∧ PyData.eqv d d' = b := fun b e => by
    unfold geq at e
    split at e
    · rename_i d d' e1 e2
      split at e
      · rename_i hs
        rw [Bool.and_eq_true] at hs
        exact ⟨d, d', hvx.dp e1, hvy.dp e2, hs.1, hs.2, Option.some.inj e⟩
      · cases e
    · cases e
  have deepIn : ∀ ys b, gy = .lst ys → gin gx ys = some b → ∃ d ds, Dp X.K H x d ∧ Dp X.K H y (.list ds) ∧ SeqAt.shaped d = true ∧ SeqAt.shaped (.list ds) = true ∧ (ds.any fun z => PyData.eqv z d) = b := fun ys b ey e' => by
    rw [ey] at hvy
    unfold gin at e'
    split at e'
    · rename_i d ds e1 e2
      split at e'
      · rename_i hs
        rw [Bool.and_eq_true] at hs
        refine ⟨d, ds, hvx.dp e1, hvy.dp (d := .list ds) ?_, hs.1, hs.2, Option.some.inj e'⟩
        show (GV.pds ys).map PyData.list = _
        rw [e2]; rfl
      · cases e'
    · cases e'
  have uneq : lenNe gx gy = true → ∃ a b xs ys, x = .ref a ∧ y = .ref b ∧ H a = some (.lst xs) ∧ H b = some (.lst ys) ∧ (xs.length != ys.length) = true := fun e => by
    cases gx with
    | lst xs =>
      cases gy with
      | lst ys =>
        obtain ⟨p, vs, rfl, hp, rs⟩ := hvx
        obtain ⟨q, ws, rfl, hq, rt⟩ := hvy
        have e' : (xs.length != ys.length) = true := e
        rw [rs.length, rt.length] at e'
        exact ⟨p, q, vs, ws, rfl, rfl, hp, hq, e'⟩
      | _ => cases e
    | _ => cases e
  have key : ∀ b, eqv2 gx gy = some b → (∃ i j, gx = .str i ∧ gy = .str j ∧ b = (i == j)) ∨ (lenNe gx gy = true ∧ b = false) ∨ geq gx gy = some b := fun b e => by
    unfold eqv2 at e
    split at e
    · exact .inl ⟨_, _, rfl, rfl, (Option.some.inj e).symm⟩
    · split at e
      · rename_i hl
        exact .inr (.inl ⟨hl, (Option.some.inj e).symm⟩)
      · exact .inr (.inr e)
  unfold cmpop at e
  split at e
  · rcases key r e with ⟨i, j, rfl, rfl, rfl⟩ | ⟨hl, rfl⟩ | e
    · cases (show x = _ from hvx); cases (show y = _ from hvy)
      exact L2.op_eq pins st σ H _ _ v u Q I rx ry ⟨rfl, by rw [dec_str]; exact hq⟩
    · obtain ⟨a, b, xs, ys, rfl, rfl, h1, h2, h3⟩ := uneq hl
      cases rx; cases ry
      obtain ⟨its, r1, p1, _⟩ := I.list (SqL.of h1)
      obtain ⟨jts, r2, p2, _⟩ := I.list (SqL.of h2)
      refine PySem.SeqAt.eq_list_lengthsAt p1.isList p2.isList ?_ (by omega) ⟨.bl false, H, I, rfl, hq⟩
      rw [List.size_toArray, List.size_toArray, ← r1.length, ← r2.length]; exact h3
    · obtain ⟨d, d', h1, h2, h3, h4, h5⟩ := deep r e
      exact L2.op_eqD (by omega) pins st σ H _ _ v u Q I rx ry ⟨d, d', h1, h2, h3, h4, by rw [h5]; exact hq⟩
  · cases eg : eqv2 gx gy with
    | none => rw [eg] at e; cases e
    | some b =>
      rw [eg] at e
      have e' : (!b) = r := Option.some.inj e
      rcases key b eg with ⟨i, j, rfl, rfl, rfl⟩ | ⟨hl, rfl⟩ | eg
      · cases (show x = _ from hvx); cases (show y = _ from hvy)
        exact L2.op_ne pins st σ H _ _ v u Q I rx ry ⟨rfl, by rw [dec_str, e']; exact hq⟩
      · obtain ⟨a, b, xs, ys, rfl, rfl, h1, h2, h3⟩ := uneq hl
        cases rx; cases ry
        obtain ⟨its, r1, p1, _⟩ := I.list (SqL.of h1)
        obtain ⟨jts, r2, p2, _⟩ := I.list (SqL.of h2)
        refine PySem.SeqAt.RcNeAt.lists_lengths p1.isList p2.isList ?_ (by omega) X.prog X.w X.xe _ ⟨.bl true, H, I, rfl, by rw [show true = r from e']; exact hq⟩
        rw [List.size_toArray, List.size_toArray, ← r1.length, ← r2.length]; exact h3
      · obtain ⟨d, d', h1, h2, h3, h4, h5⟩ := deep b eg
        exact L2.op_neD (by omega) pins st σ H _ _ v u Q I rx ry ⟨d, d', h1, h2, h3, h4, by rw [h5, e']; exact hq⟩
  · cases e; cases (show x = _ from hvx); cases (show y = _ from hvy)
    exact L2.op_lt pins st σ H _ _ v u Q I rx ry ⟨_, _, rfl, rfl, hq⟩
  · cases e; cases (show x = _ from hvx); cases (show y = _ from hvy)
    exact L2.op_le pins st σ H _ _ v u Q I rx ry ⟨_, _, rfl, rfl, hq⟩
  · cases e; cases (show x = _ from hvx); cases (show y = _ from hvy)
    exact L2.op_gt pins st σ H _ _ v u Q I rx ry ⟨_, _, rfl, rfl, hq⟩
  · cases e; cases (show x = _ from hvx); cases (show y = _ from hvy)
    exact L2.op_ge pins st σ H _ _ v u Q I rx ry ⟨_, _, rfl, rfl, hq⟩
  · cases e; cases (show x = _ from hvx); cases (show y = _ from hvy)
    exact L2.op_lt_str pins st σ H _ _ v u Q I rx ry ⟨_, _, rfl, rfl, hq⟩
  · cases e; cases (show x = _ from hvx); cases (show y = _ from hvy)
    exact L2.op_le_str pins st σ H _ _ v u Q I rx ry ⟨_, _, rfl, rfl, hq⟩
  · rename_i ys
    obtain ⟨d, ds, h1, h2, h3, h4, h5⟩ := deepIn ys r rfl e
    exact L2.op_inD hu pins st σ H _ _ v u Q I rx ry ⟨d, ds, h1, h2, h3, h4, by rw [h5]; exact hq⟩
  · rename_i ys
    cases eg : gin gx ys with
    | none => rw [eg] at e; cases e
    | some b =>
      rw [eg] at e
      obtain ⟨d, ds, h1, h2, h3, h4, h5⟩ := deepIn ys b rfl eg
      have e' : (!b) = r := Option.some.inj e
      exact L2.op_notInD hu pins st σ H _ _ v u Q I rx ry ⟨d, ds, h1, h2, h3, h4, by rw [h5, e']; exact hq⟩
  · cases (show y = _ from hvy)
    exact L2.op_isN pins st σ H _ _ v u Q I rx ry ⟨rfl, by rw [hvx.isN e]; exact hq⟩
  · cases (show y = _ from hvy)
    cases eg : isN gx with
    | none => rw [eg] at e; cases e
    | some b =>
      rw [eg] at e
      have e' : (!b) = r := Option.some.inj e
      exact L2.op_notN pins st σ H _ _ v u Q I rx ry ⟨rfl, by rw [hvx.isN eg, e']; exact hq⟩
  · cases e
theorem tru_G : TruR X (fun vx H Q => ∃ (W : L2.WX) (σr : St) (ρ : List Addr) (Rs Rs2 : AP) (s : GS) (x : EV), (∀ q, Rs q → Rs2 q) ∧ FSim X.K cid ρ Rs2 H σr s ∧
    EVR X.K cid ρ (UU ρ Rs2 σr s) H σr x vx ∧ Good X.K cid W σr ρ Rs H s (lift (truth (rd s x)) s .ok) (PostB X.K cid σr Rs Q)) := by
  intro pins st σ H x v Q I rx h
  obtain ⟨W, σr, ρ, Rs, Rs2, s, ex, hR, F, hx, G⟩ := h
  have hvx := F.rd hx
  have F1 : FSim X.K cid ρ Rs H σr s := F.weak hR
  obtain ⟨r, e, G⟩ := lift_good G
  generalize GI.rd s ex = gx at hvx e
  have hq : Q r H := G.valb F1
  refine L2.tru_ok pins st σ H x v Q I rx ⟨r, ?_, hq⟩
  unfold truth at e
  split at e
  · cases e; cases (show x = _ from hvx); rfl
  · cases e; cases (show x = _ from hvx); rfl
  · cases e; cases (show x = _ from hvx); rfl
  · cases (show x = _ from hvx)
    split at e
    · rename_i hz
      cases e
      exact ⟨hz, rfl⟩
    · cases e
  · rename_i xs
    cases e
    obtain ⟨p, vs, rfl, hp, rs⟩ := (show ∃ p vs, x = .ref p ∧ H p = some (.lst vs) ∧ RVs X.K cid ρ _ H xs vs from hvx)
    refine .inl ⟨vs, SqL.of hp, ?_⟩
    have := rs.length
    cases xs <;> cases vs <;> first | rfl | (simp at this)
  · rename_i xs
    cases e
    obtain ⟨p, vs, rfl, hp, rs⟩ := (show ∃ p vs, x = .ref p ∧ ((¬ _ ∧ H p = some (.tup vs)) ∨ KTup X.K p vs) ∧ RVs X.K cid ρ _ H xs vs from hvx)
    refine .inr (.inl ⟨vs, sqt hp, ?_⟩)
    have := rs.length
    cases xs <;> cases vs <;> first | rfl | (simp at this)
  · cases e
theorem atI_at {α β : Type} {xs : List α} {ys : List β} {i : Int} {x : α} (hl : xs.length = ys.length) (h : atI xs i = some x) : ∃ j : Nat, xs[j]? = some x ∧ ∀ y : β, ys[j]? = some y → atI ys i = some y := by
  unfold atI at h ⊢
  rw [← hl]
  cases q : ixN xs.length i with
  | none => rw [q] at h; cases h
  | some j => rw [q] at h; exact ⟨j, h, fun y e => e⟩
theorem atI_map {α β : Type} (f : α → β) {xs : List α} {i : Int} {x : α} (h : atI xs i = some x) : atI (xs.map f) i = some (f x) := by
  obtain ⟨j, h1, h2⟩ := atI_at (ys := xs.map f) (by simp) h
  exact h2 _ (by rw [List.getElem?_map, h1]; rfl)
theorem ix_G : IxR X (Cons2 X.K cid fun gx gy s => lift (gix gx gy) s fun v => .ok (.g v)) := by
  intro ve se pins st σ H x y v u Q I rx ry h hs
  obtain ⟨W, σr, ρ, Rs, Rs2, s, ex, ey, hR, F, hx, hy, G⟩ := h
  have hvx := F.rd hx
  have hvy := F.rd hy
  have F1 : FSim X.K cid ρ Rs H σr s := F.weak hR
  obtain ⟨r, e, G⟩ := lift_good G
  generalize GI.rd s ex = gx at hvx e
  generalize GI.rd s ey = gy at hvy e
  unfold gix at e
  split at e
  · rename_i xs i
    cases (show y = _ from hvy)
    obtain ⟨p, vs, rfl, hp, rs⟩ := (show ∃ p vs, x = .ref p ∧ H p = some (.lst vs) ∧ RVs X.K cid ρ _ H xs vs from hvx)
    obtain ⟨j, h1, h2⟩ := atI_at (ys := vs) rs.length e
    obtain ⟨w, h3, r3⟩ := rs.at h1
    exact L2.ix_list ve se pins st σ H _ _ v u Q I rx ry ⟨p, vs, i, w, rfl, rfl, SqL.of hp, h2 w h3, G.val F1 (RV.mv (Mv.less (uu_less hR)) r3)⟩ hs
  · rename_i xs i
    cases (show y = _ from hvy)
    obtain ⟨p, vs, rfl, hp, rs⟩ := (show ∃ p vs, x = .ref p ∧ ((¬ _ ∧ H p = some (.tup vs)) ∨ KTup X.K p vs) ∧ RVs X.K cid ρ _ H xs vs from hvx)
    obtain ⟨j, h1, h2⟩ := atI_at (ys := vs) rs.length e
    obtain ⟨w, h3, r3⟩ := rs.at h1
    exact L2.ix_tup ve se pins st σ H _ _ v u Q I rx ry ⟨p, vs, i, w, rfl, rfl, sqt hp, h2 w h3, G.val F1 (RV.mv (Mv.less (uu_less hR)) r3)⟩ hs
  · rename_i ns i
    cases (show y = _ from hvy)
    obtain ⟨p, rfl, hp⟩ := (show ∃ p, x = .ref p ∧ FLst X.K _ H p (ns.map V.int) from hvx)
    cases q : atI ns i with
    | none => rw [q] at e; cases e
    | some k =>
      rw [q] at e
      cases e
      exact L2.ix_list ve se pins st σ H _ _ v u Q I rx ry ⟨p, _, i, .int k, rfl, rfl, hp.sq, atI_map V.int q, G.val F1 rfl⟩ hs
  · rename_i z i
    cases (show x = _ from hvx); cases (show y = _ from hvy)
    split at e
    · rename_i hz
      cases q : atI z.cps.toList i with
      | none => rw [q] at e; cases e
      | some c =>
        rw [q] at e
        cases e
        exact L2.ix_str ve se pins st σ H _ _ v u Q I rx ry ⟨z, i, c, rfl, rfl, hz, q, G.val F1 rfl⟩ hs
    · cases e
  · cases e
theorem cutV_rs {K : PySem.W.Frag} {ρ : List Addr} {U : AP} {H : Hp} {gs : List GV} {vs : List V} (h : RVs K cid ρ U H gs vs) (lo hi : Option Int) : RVs K cid ρ U H (cutG gs lo hi) (cutV vs lo hi) := by
  unfold cutG cutV
  rw [← h.length]
  exact RVs.take _ (RVs.drop _ h)
theorem cutG_map {α β : Type} (f : α → β) (xs : List α) (lo hi : Option Int) : cutG (xs.map f) lo hi = (cutG xs lo hi).map f := by
  unfold cutG
  rw [List.length_map, List.map_take, List.map_drop]
theorem ints_rv {K : PySem.W.Frag} {ρ : List Addr} {U : AP} {H : Hp} : ∀ ns : List Int, RVs K cid ρ U H (ns.map GV.int) (ns.map V.int)
  | [] => rfl
  | n :: ns => ⟨_, _, rfl, rfl, ints_rv ns⟩
theorem sl_G : SlR X (fun vx lo hi H Q => Cons1 X.K cid (fun gx s => lift (gsl gx lo hi) s .ok) vx H Q) := by
  intro pins st σ H x v vl vu lo hi sl Q I rx hs pl pu h
  obtain ⟨W, σr, ρ, Rs, Rs2, s, ex, hR, F, hx, G⟩ := h
  have hvx := F.rd hx
  have F1 : FSim X.K cid ρ Rs H σr s := F.weak hR
  obtain ⟨r, e, G⟩ := lift_good G
  generalize GI.rd s ex = gx at hvx e
  unfold gsl at e
  split at e
  · rename_i xs
    cases e
    obtain ⟨p, vs, rfl, hp, rs⟩ := (show ∃ p vs, x = .ref p ∧ H p = some (.lst vs) ∧ RVs X.K cid ρ _ H xs vs from hvx)
    exact L2.sl_list pins st σ H _ v vl vu lo hi sl Q I rx hs pl pu ⟨p, vs, rfl, SqL.of hp, fun q hq => G.new F1 hq fun ρ' U' H' m e => ⟨_, e, cutV_rs ((rs.less (uu_less hR)).mv m) lo hi⟩⟩
  · rename_i ns
    cases e
    obtain ⟨p, rfl, hp⟩ := (show ∃ p, x = .ref p ∧ FLst X.K _ H p (ns.map V.int) from hvx)
    refine L2.sl_list pins st σ H _ v vl vu lo hi sl Q I rx hs pl pu ⟨p, _, rfl, hp.sq, fun q hq => G.new F1 hq fun ρ' U' H' m e => ⟨_, e, ?_⟩⟩
    rw [← cutG_map]
    exact cutV_rs (ints_rv ns) lo hi
  · rename_i xs
    split at e
    · rename_i hw
      cases e
      obtain ⟨p, vs, rfl, hp, rs⟩ := (show ∃ p vs, x = .ref p ∧ ((¬ _ ∧ H p = some (.tup vs)) ∨ KTup X.K p vs) ∧ RVs X.K cid ρ _ H xs vs from hvx)
      exact L2.sl_tup pins st σ H _ v vl vu lo hi sl Q I rx hs pl pu ⟨p, vs, rfl, sqt hp, by rw [← rs.length]; exact hw, fun q hq => G.newv F1 hq fun ρ' U' H' m nu e => ⟨q, _, rfl, .inl ⟨nu, e⟩, cutV_rs ((rs.less (uu_less hR)).mv m) lo hi⟩⟩
    · cases e
  · rename_i z
    cases (show x = _ from hvx)
    split at e
    · rename_i hz
      cases e
      exact L2.sl_str pins st σ H _ v vl vu lo hi sl Q I rx hs pl pu ⟨z, rfl, hz, G.val F1 rfl⟩
    · cases e
  · cases e
/-! ### built-in functions -/
def VWs (K : PySem.W.Frag) (cid : Nat → Addr) (ρ : List Addr) (U : AP) (H : Hp) : List GV → List V → Prop
  | [], [] => True
  | g :: gs, v :: vs => VW K cid ρ U H g v ∧ VWs K cid ρ U H gs vs
  | _, _ => False
theorem FSim.rds {K : PySem.W.Frag} {ρ : List Addr} {Rs : AP} {H : Hp} {σr : St} {s : GS} (F : FSim K cid ρ Rs H σr s) : ∀ {xs : List EV} {vs : List V}, EVRs K cid ρ (UU ρ Rs σr s) H σr xs vs → VWs K cid ρ (UU ρ Rs σr s) H (xs.map (GI.rd s)) vs
  | [], [], _ => True.intro
  | x :: xs, v :: vs, h => ⟨F.rd h.1, FSim.rds F h.2⟩
  | [], _ :: _, h => h.elim
  | _ :: _, [], h => h.elim
def ConsL (K : PySem.W.Frag) (cid : Nat → Addr) (f : List GV → GS → R EV) : List V → Hp → VK → Prop := fun vs H Q => ∃ (W : L2.WX) (σr : St) (ρ : List Addr) (Rs Rs2 : AP) (s : GS) (xs : List EV), (∀ q, Rs q → Rs2 q) ∧ FSim K cid ρ Rs2 H σr s ∧
  EVRs K cid ρ (UU ρ Rs2 σr s) H σr xs vs ∧ Good K cid W σr ρ Rs H s (f (xs.map (rd s)) s) (PostE K cid σr Rs Q)
def rBi (K : PySem.W.Frag) (cid : Nat → Addr) (n : Bi) : List V → Hp → VK → Prop := ConsL K cid fun gs s => lift (biF n gs) s .ok
theorem ConsL.open_ {K : PySem.W.Frag} {n : Bi} {vs : List V} {H : Hp} {Q : VK} (h : rBi K cid n vs H Q) :
    ∃ (W : L2.WX) (σr : St) (ρ : List Addr) (Rs Rs2 : AP) (s : GS) (gs : List GV) (r : EV), (∀ q, Rs q → Rs2 q) ∧ FSim K cid ρ Rs H σr s ∧ VWs K cid ρ (UU ρ Rs2 σr s) H gs vs ∧ biF n gs = some r ∧
      Good K cid W σr ρ Rs H s (.ok r s) (PostE K cid σr Rs Q) := by
  obtain ⟨W, σr, ρ, Rs, Rs2, s, xs, hR, F, hx, G⟩ := h
  obtain ⟨r, e, G⟩ := lift_good G
  exact ⟨W, σr, ρ, Rs, Rs2, s, xs.map (GI.rd s), r, hR, F.weak hR, F.rds hx, e, G⟩
theorem VWs.one {K : PySem.W.Frag} {ρ : List Addr} {U : AP} {H : Hp} {g : GV} : ∀ {vs : List V}, VWs K cid ρ U H [g] vs → ∃ v, vs = [v] ∧ VW K cid ρ U H g v
  | [v], h => ⟨v, rfl, h.1⟩
  | [], h => h.elim
  | _ :: _ :: _, h => h.2.elim
theorem VWs.two {K : PySem.W.Frag} {ρ : List Addr} {U : AP} {H : Hp} {g g' : GV} : ∀ {vs : List V}, VWs K cid ρ U H [g, g'] vs → ∃ v w, vs = [v, w] ∧ VW K cid ρ U H g v ∧ VW K cid ρ U H g' w
  | [v, w], h => ⟨v, w, rfl, h.1, h.2.1⟩
  | [], h => h.elim
  | [_], h => h.2.elim
  | _ :: _ :: _ :: _, h => h.2.2.elim
theorem bi_len : CallR X (.builtin "len") (rBi X.K cid .len) := by
  intro pins st σ H xs us Q I rs h
  obtain ⟨W, σr, ρ, Rs, Rs2, s, gs, r, hR, F, hv, e, G⟩ := ConsL.open_ h
  unfold biF at e
  split at e
  case h_1 _ _ xs' _ =>
    cases e
    obtain ⟨v, rfl, p, vs, rfl, hp, rr⟩ := hv.one
    have := rr.length
    exact L2.call_len_seq pins st σ H _ us Q I rs ⟨p, vs, rfl, .inl (SqL.of hp), by rw [← rr.length]; exact G.val F rfl⟩
  case h_2 _ _ xs' _ =>
    cases e
    obtain ⟨v, rfl, p, vs, rfl, hp, rr⟩ := hv.one
    exact L2.call_len_seq pins st σ H _ us Q I rs ⟨p, vs, rfl, .inr (sqt hp), by rw [← rr.length]; exact G.val F rfl⟩
  case h_3 _ _ ns _ =>
    cases e
    obtain ⟨v, rfl, p, rfl, hp⟩ := hv.one
    exact L2.call_len_seq pins st σ H _ us Q I rs ⟨p, _, rfl, .inl hp.sq, by rw [List.length_map]; exact G.val F rfl⟩
  case h_4 _ _ z _ =>
    obtain ⟨v, rfl, hz⟩ := hv.one
    cases (show v = _ from hz)
    split at e
    · rename_i hz
      cases e
      exact L2.call_len_str pins st σ H _ us Q I rs ⟨z, rfl, hz, G.val F rfl⟩
    · cases e
  all_goals (first | contradiction | cases e)
theorem bi_abs : CallR X (.builtin "abs") (rBi X.K cid .abs) := by
  intro pins st σ H xs us Q I rs h
  obtain ⟨W, σr, ρ, Rs, Rs2, s, gs, r, hR, F, hv, e, G⟩ := ConsL.open_ h
  unfold biF at e
  split at e
  case h_5 =>
    cases e
    obtain ⟨v, rfl, hz⟩ := hv.one
    cases (show v = _ from hz)
    exact L2.call_abs pins st σ H _ us Q I rs ⟨_, rfl, G.val F rfl⟩
  all_goals (first | contradiction | cases e)
theorem bi_int : CallR X (.type "int") (rBi X.K cid .int) := by
  intro pins st σ H xs us Q I rs h
  obtain ⟨W, σr, ρ, Rs, Rs2, s, gs, r, hR, F, hv, e, G⟩ := ConsL.open_ h
  unfold biF at e
  split at e
  case h_6 =>
    cases e
    obtain ⟨v, rfl, hz⟩ := hv.one
    cases (show v = _ from hz)
    exact L2.call_int1 pins st σ H _ us Q I rs (.inl ⟨_, rfl, G.val F rfl⟩)
  case h_7 =>
    cases e
    obtain ⟨v, rfl, hz⟩ := hv.one
    cases (show v = _ from hz)
    exact L2.call_int1 pins st σ H _ us Q I rs (.inr ⟨_, rfl, G.val F rfl⟩)
  all_goals (first | contradiction | cases e)
theorem bi_max (hc : X.calm = true) : CallR X (.builtin "max") (rBi X.K cid .max) := by
  intro pins st σ H xs us Q I rs h
  obtain ⟨W, σr, ρ, Rs, Rs2, s, gs, r, hR, F, hv, e, G⟩ := ConsL.open_ h
  unfold biF at e
  split at e
  case h_8 =>
    cases e
    obtain ⟨v, w, rfl, hz, hz'⟩ := hv.two
    cases (show v = _ from hz); cases (show w = _ from hz')
    exact L2.call_max2 hc pins st σ H _ us Q I rs ⟨_, _, rfl, G.val F rfl⟩
  all_goals (first | contradiction | cases e)
theorem bi_min (hc : X.calm = true) : CallR X (.builtin "min") (rBi X.K cid .min) := by
  intro pins st σ H xs us Q I rs h
  obtain ⟨W, σr, ρ, Rs, Rs2, s, gs, r, hR, F, hv, e, G⟩ := ConsL.open_ h
  unfold biF at e
  split at e
  case h_9 =>
    cases e
    obtain ⟨v, w, rfl, hz, hz'⟩ := hv.two
    cases (show v = _ from hz); cases (show w = _ from hz')
    exact L2.call_min2 hc pins st σ H _ us Q I rs ⟨_, _, rfl, G.val F rfl⟩
  all_goals (first | contradiction | cases e)
theorem bi_sum (hc : X.calm = true) : CallR X (.builtin "sum") (rBi X.K cid .sum) := by
  intro pins st σ H xs us Q I rs h
  obtain ⟨W, σr, ρ, Rs, Rs2, s, gs, r, hR, F, hv, e, G⟩ := ConsL.open_ h
  unfold biF at e
  split at e
  case h_10 _ _ xs' _ =>
    obtain ⟨v, rfl, p, vs, rfl, hp, rr⟩ := hv.one
    cases q : intsG xs' with
    | none => rw [q] at e; cases e
    | some ns =>
      rw [q] at e
      cases e
      have e2 := rr.ints q
      subst e2
      exact L2.cr_sum hc pins st σ H _ us Q I rs ⟨p, ns, rfl, SqL.of hp, G.val F rfl⟩
  all_goals (first | contradiction | cases e)
theorem bi_all (hc : X.calm = true) : CallR X (.builtin "all") (rBi X.K cid .all) := by
  intro pins st σ H xs us Q I rs h
  obtain ⟨W, σr, ρ, Rs, Rs2, s, gs, r, hR, F, hv, e, G⟩ := ConsL.open_ h
  unfold biF at e
  split at e
  case h_11 _ _ xs' _ =>
    obtain ⟨v, rfl, p, vs, rfl, hp, rr⟩ := hv.one
    cases q : boolsG xs' with
    | none => rw [q] at e; cases e
    | some ns =>
      rw [q] at e
      cases e
      have e2 := rr.bools q
      subst e2
      exact L2.cr_all hc pins st σ H _ us Q I rs ⟨p, ns, rfl, SqL.of hp, G.val F rfl⟩
  all_goals (first | contradiction | cases e)
theorem bi_any (hc : X.calm = true) : CallR X (.builtin "any") (rBi X.K cid .any) := by
  intro pins st σ H xs us Q I rs h
  obtain ⟨W, σr, ρ, Rs, Rs2, s, gs, r, hR, F, hv, e, G⟩ := ConsL.open_ h
  unfold biF at e
  split at e
  case h_12 _ _ xs' _ =>
    obtain ⟨v, rfl, p, vs, rfl, hp, rr⟩ := hv.one
    cases q : boolsG xs' with
    | none => rw [q] at e; cases e
    | some ns =>
      rw [q] at e
      cases e
      have e2 := rr.bools q
      subst e2
      exact L2.cr_any hc pins st σ H _ us Q I rs ⟨p, ns, rfl, SqL.of hp, G.val F rfl⟩
  all_goals (first | contradiction | cases e)
theorem bi_repr (hu : X.A.units + 64 < cLine) (hg : X.A.guards = some []) : CallR X (.builtin "repr") (rBi X.K cid .repr) := by
  intro pins st σ H xs us Q I rs h
  obtain ⟨W, σr, ρ, Rs, Rs2, s, gs, r, hR, F, hv, e, G⟩ := ConsL.open_ h
  unfold biF at e
  split at e
  case h_13 _ _ x _ =>
    obtain ⟨v, rfl, hz⟩ := hv.one
    split at e
    · rename_i d ed
      split at e
      · rename_i hc
        cases e
        obtain ⟨u, rfl, ru⟩ := vals1 rs
        obtain ⟨as, rd⟩ := Dp.reads I d v u (hz.dp ed) ru
        have hq : Q (.str d.shown) H := G.val F rfl
        have hnd := GV.pd_nodict x ed
        have disp : ∀ a, u = .ref a → wpAny (model X.prog X.w) X.A (call (.builtin "repr") [u]) (EP X pins σ Q) X.xe st := fun a ea => by
          subst ea
          exact repr_of_reads' (h₀ := st.heap) rd hc.1 (PyData.noDict_hsm hnd) hg (by omega) (fun _ _ e => e) (fun h' u' tk hk => ⟨.str d.shown, H, I.kept (t' := tk) hk, ⟨_, rfl⟩, hq⟩) hc.2.1
        cases rd with
        | none => exact PySem.P.repr_of_none ⟨.str _, H, I.tok _, ⟨_, rfl⟩, hq⟩
        | bool b => exact PySem.P.repr_of_bool ⟨.str _, H, I.tok _, ⟨_, rfl⟩, hq⟩
        | int i t => exact PySem.P.repr_of_int (by simpa [PyData.showable] using hc.1) ⟨.str _, H, I.tok _, ⟨_, rfl⟩, hq⟩
        | str z t => exact PySem.P.repr_of_str ⟨.str _, H, I.tok _, ⟨_, rfl⟩, hq⟩ hc.2.1
        | list h1 h2 h3 h4 => exact disp _ rfl
        | tuple h1 h2 h3 h4 => exact disp _ rfl
        | dict h1 h2 h3 h4 h5 => exact disp _ rfl
      · cases e
    · cases e
  all_goals (first | contradiction | cases e)
theorem bi_list : CallR X (.type "list") (rBi X.K cid .list) := by
  intro pins st σ H xs us Q I rs h
  obtain ⟨W, σr, ρ, Rs, Rs2, s, gs, r, hR, F, hv, e, G⟩ := ConsL.open_ h
  unfold biF at e
  split at e
  case h_14 _ _ x _ =>
    obtain ⟨v, rfl, hz⟩ := hv.one
    split at e
    · cases e
      obtain ⟨p, vs, rfl, hp, rr⟩ := hz
      exact L2.call_list_of pins st σ H _ us Q I rs ⟨p, vs, rfl, .inl (SqL.of hp), fun q hq => G.new F hq fun ρ' U' H' m e => ⟨_, e, (rr.less (uu_less hR)).mv m⟩⟩
    · cases e
      obtain ⟨p, vs, rfl, hp, rr⟩ := hz
      exact L2.call_list_of pins st σ H _ us Q I rs ⟨p, vs, rfl, .inr (sqt hp), fun q hq => G.new F hq fun ρ' U' H' m e => ⟨_, e, (rr.less (uu_less hR)).mv m⟩⟩
    · cases e
      obtain ⟨p, rfl, hp⟩ := hz
      exact L2.call_list_of pins st σ H _ us Q I rs ⟨p, _, rfl, .inl hp.sq, fun q hq => G.new F hq fun ρ' U' H' m e => ⟨_, e, ints_rv _⟩⟩
    · cases e
  all_goals (first | contradiction | cases e)
theorem bi_tuple : CallR X (.type "tuple") (rBi X.K cid .tuple) := by
  intro pins st σ H xs us Q I rs h
  obtain ⟨W, σr, ρ, Rs, Rs2, s, gs, r, hR, F, hv, e, G⟩ := ConsL.open_ h
  unfold biF at e
  split at e
  case h_15 =>
    cases e
    obtain ⟨v, rfl, p, vs, rfl, hp, rr⟩ := hv.one
    exact L2.call_tuple_of pins st σ H _ us Q I rs ⟨p, vs, rfl, .inl ⟨SqL.of hp, fun q hq => G.newv F hq fun ρ' U' H' m nu e => ⟨q, _, rfl, .inl ⟨nu, e⟩, (rr.less (uu_less hR)).mv m⟩⟩⟩
  case h_16 _ _ xs' _ =>
    cases e
    obtain ⟨v, rfl, hz⟩ := hv.one
    have hz' := hz
    obtain ⟨p, vs, rfl, hp, rr⟩ := hz
    exact L2.call_tuple_of pins st σ H _ us Q I rs ⟨p, vs, rfl, .inr ⟨sqt hp, G.val F (RV.mv (g := .tup xs') (Mv.less (uu_less hR)) hz')⟩⟩
  all_goals (first | contradiction | cases e)

/-! ### methods of built-in types -/
def rBm (K : PySem.W.Frag) (cid : Nat → Addr) (m : Bm) : V → List V → Hp → VK → Prop := fun vx vs H Q => ∃ (W : L2.WX) (σr : St) (ρ : List Addr) (Rs Rs2 : AP) (s : GS) (x : EV) (ys : List EV), (∀ q, Rs q → Rs2 q) ∧ (∀ q, Xs ys vs q → Rs2 q) ∧ FSim K cid ρ Rs2 H σr s ∧
  EVR K cid ρ (UU ρ Rs2 σr s) H σr x vx ∧ EVRs K cid ρ (UU ρ Rs2 σr s) H σr ys vs ∧ Dis ys vs ∧ (∀ q, Xs ys vs q → ¬ Rs q) ∧
  Good K cid W σr ρ Rs H s (match bmr m (rd s x) (ys.map (rd s)) with
    | some r => .ok r s
    | none => upo x (bmf m (fzs s ys).1) (fzs s ys).2) (PostE K cid σr Rs Q)
theorem EVR.fzs {K : PySem.W.Frag} {ρ : List Addr} {U U' : AP} {H : Hp} {σr : St} {x : EV} {v : V} (hu : ∀ p, U' p → U p) (h : EVR K cid ρ U H σr x v) : EVR K cid ρ U' H σr x v := EVR.mv (Mv.less hu) (fun _ _ => rfl) h
/-- a container's own method: what is put in its place -/
theorem bm_put {pins : List (Addr × Obj)} {m : Bm} {vx : V} {vs : List V} {H : Hp} {Q : VK} (hr : ∀ g gs, bmr m g gs = none) (h : rBm X.K cid m vx vs H Q) :
    ∃ (W : L2.WX) (σr : St) (ρ : List Addr) (Rs : AP) (s : GS) (p : Addr) (o o' : GO) (g : GV) (gs : List GV), vx = .ref p ∧ bmf m gs o = some (g, o') ∧ OR X.K cid ρ (UU ρ Rs σr s) H p o ∧ RVs X.K cid ρ (UU ρ Rs σr s) H gs vs ∧
      ∀ u, (o' ≠ .gone → ∃ U', Mv ρ ρ (UU ρ Rs σr s) U' H (upd H p u) ∧ (OR X.K cid ρ U' (upd H p u) p o' → ∀ v, RV X.K cid ρ U' (upd H p u) g v → Q v (upd H p u))) := by
  obtain ⟨W, σr, ρ, Rs, Rs2, s, x, ys, hR, hX, F, hx, hys, hd, hn, G⟩ := h
  rw [hr] at G
  have F0 : FSim X.K cid ρ (fun q => Rs q ∨ Xs ys vs q) H σr s := F.weak fun q z => z.elim (hR q) (hX q)
  have l0 : ∀ q, UU ρ (fun q => Rs q ∨ Xs ys vs q) σr s q → UU ρ Rs2 σr s q := fun q z => z.imp (fun z => z.elim (hR q) (hX q)) fun z => z
  obtain ⟨F3, rs, hm, hh⟩ := FSim.fzs F0 (EVRs.mv (Mv.less l0) (fun _ _ => rfl) hys) hd hn
  have hx3 : EVR X.K cid ρ (UU ρ Rs σr (fzs s ys).2) H σr x vx := EVR.fzs (fun q z => z.elim (fun z => .inl (hR q z)) fun z => .inr (hm q z)) hx
  have G' : Good X.K cid W σr ρ Rs H s (match cont (fzs s ys).2 x with
    | some o => (match bmf m (fzs s ys).1 o with
      | some (r, o') => .ok (.g r) (recont (fzs s ys).2 x o')
      | none => .bad)
    | none => .bad) (PostE X.K cid σr Rs Q) := G
  cases q1 : cont (fzs s ys).2 x with
  | none => rw [q1] at G'; exact G'.elim
  | some o =>
    rw [q1] at G'
    cases q2 : bmf m (fzs s ys).1 o with
    | none => simp only [q2] at G'; exact G'.elim
    | some ro =>
      obtain ⟨g, o'⟩ := ro
      simp only [q2] at G'
      have no : o ≠ .gone := fun z => by
        subst z
        cases m <;> simp only [bmf] at q2 <;> (first | (split at q2 <;> simp_all) | simp_all)
      obtain ⟨p, rfl, ro, hp, st⟩ := F3.ch hx3 q1 no
      refine ⟨W, σr, ρ, Rs, (fzs s ys).2, p, o, o', g, (fzs s ys).1, rfl, q2, ro, rs, fun u no' => ?_⟩
      obtain ⟨mv, hs, fin⟩ := st u o' no'
      refine ⟨_, mv, fun r' v rv => ?_⟩
      have F4 := fin r'
      refine G' ρ (upd H p u) (ext_upd (hm p hp) fun q z => hm q (hs q z)) v (fun _ z => z.elim) (F4.weak fun q z => z.elim (fun z => z) fun z => z.elim) (RV.mv (Mv.less fun q z => ?_) rv)
      rcases z with (z | z) | z
      · exact .inl z
      · exact z.elim
      · exact .inr z
theorem RVs.single {K : PySem.W.Frag} {ρ : List Addr} {U : AP} {H : Hp} {g : GV} {vs : List V} (h : RVs K cid ρ U H [g] vs) : ∃ v, vs = [v] ∧ RV K cid ρ U H g v := by
  obtain ⟨v, ws, rfl, h1, h2⟩ := h
  cases (show ws = [] from h2)
  exact ⟨v, rfl, h1⟩
theorem mt_append_G : MtR X "list.append" (rBm X.K cid .append) := by
  intro pins st σ H x xs v us Q I rx rs h
  obtain ⟨W, σr, ρ, Rs, s, p, o, o', g, gs, rfl, e, ro, rr, fin⟩ := bm_put (pins := pins) (fun g gs => by unfold bmr; split <;> first | contradiction | rfl) h
  unfold bmf at e
  split at e
  case h_1 g1 xs' _ =>
    split at e
    · rename_i hz
      cases e
      obtain ⟨y, rfl, r1⟩ := rr.single
      obtain ⟨ws, hp, rw'⟩ := ro
      refine L2.mt_append pins st σ H _ _ v us Q I rx rs ⟨p, ws, y, rfl, rfl, hp, by rw [← rw'.length]; exact hz, ?_⟩
      obtain ⟨U', mv, f⟩ := fin _ (fun z => by cases z)
      exact f ⟨_, upd_same, RVs.append (rw'.mv mv) (RVs.one (r1.mv mv))⟩ .non rfl
    · cases e
  all_goals (first | contradiction | cases e)
theorem mt_pop_G : MtR X "list.pop" (rBm X.K cid .pop) := by
  intro pins st σ H x xs v us Q I rx rs h
  obtain ⟨W, σr, ρ, Rs, s, p, o, o', g, gs, rfl, e, ro, rr, fin⟩ := bm_put (pins := pins) (fun g gs => by unfold bmr; split <;> first | contradiction | rfl) h
  unfold bmf at e
  split at e
  case h_2 xs' _ =>
    cases q : xs'[xs'.length - 1]? with
    | none => rw [q] at e; cases e
    | some y =>
      rw [q] at e
      cases e
      cases (show xs = [] from rr)
      obtain ⟨ws, hp, rw'⟩ := ro
      obtain ⟨w, hw, r1⟩ := rw'.at q
      refine L2.mt_pop pins st σ H _ _ v us Q I rx rs ⟨p, ws, w, rfl, rfl, hp, by rw [← rw'.length]; exact hw, ?_⟩
      obtain ⟨U', mv, f⟩ := fin _ (fun z => by cases z)
      exact f ⟨_, upd_same, (rw'.mv mv).dropLast⟩ w (r1.mv mv)
  case h_3 i xs' _ =>
    split at e
    · rename_i hb
      split at e
      · rename_i k hk
        cases q : xs'[k]? with
        | none => rw [q] at e; cases e
        | some y =>
          rw [q] at e
          cases e
          obtain ⟨y0, rfl, r0⟩ := rr.single
          cases (show y0 = _ from r0)
          obtain ⟨ws, hp, rw'⟩ := ro
          obtain ⟨w, hw, r1⟩ := rw'.at q
          refine L2.mt_popAt pins st σ H _ _ v us Q I rx rs ⟨p, ws, i, k, w, rfl, rfl, hp, hb.1, hb.2, by rw [← rw'.length]; exact hk, hw, ?_⟩
          obtain ⟨U', mv, f⟩ := fin _ (fun z => by cases z)
          exact f ⟨_, upd_same, (rw'.mv mv).erase k⟩ w (r1.mv mv)
      · cases e
    · cases e
  all_goals (first | contradiction | cases e)
theorem mt_join_G : MtR X "str.join" (rBm X.K cid .join) := by
  intro pins st σ H x xs v us Q I rx rs h
  obtain ⟨W, σr, ρ, Rs, Rs2, s, ex, ys, hR, hX, F, hx, hys, hd, hn, G⟩ := h
  have hvx := F.rd hx
  have hvs := F.rds hys
  have F1 : FSim X.K cid ρ Rs H σr s := F.weak hR
  split at G
  · rename_i r e
    generalize GI.rd s ex = gx at hvx e
    generalize ys.map (GI.rd s) = gs at hvs e
    unfold bmr at e
    split at e
    case h_1 z xs' _ =>
      cases (show x = _ from hvx)
      obtain ⟨y, rfl, p, ws, rfl, hp, rw'⟩ := hvs.one
      split at e
      · rename_i ss hss
        split at e
        · rename_i hz
          cases e
          have e2 := rw'.strs hss
          subst e2
          exact L2.mt_join pins st σ H _ _ v us Q I rx rs ⟨z, p, ss, rfl, rfl, .inl (SqL.of hp), hz, G.val F1 rfl⟩
        · cases e
      · cases e
    all_goals (first | contradiction | cases e)
  · exfalso
    have G' : Good X.K cid W σr ρ Rs H s (match cont (fzs s ys).2 ex with
      | some o => (match bmf .join (fzs s ys).1 o with
        | some (r, o') => .ok (.g r) (recont (fzs s ys).2 ex o')
        | none => .bad)
      | none => .bad) (PostE X.K cid σr Rs Q) := G
    cases q1 : cont (fzs s ys).2 ex with
    | none => rw [q1] at G'; exact G'
    | some o =>
      rw [q1] at G'
      have e : bmf .join (fzs s ys).1 o = none := by
        unfold bmf; split <;> first | contradiction | rfl
      simp only [e] at G'
      exact G'
end
end GI
set_option Elab.async false
set_option linter.all false
set_option maxRecDepth 100000
/-! GI.Frm: into a call and out of it; a block's own slots. -/
namespace GI
open PySem PySem.Spec PyProof.Rows L2
section
variable {K : PySem.W.Frag} {cid : Nat → Addr} {ρ ρ' : List Addr} {Rs : AP} {H H' : Hp} {σr : St} {s : GS} {h' : List GO}
abbrev G0 (h : List GO) : GS := ⟨[], h⟩
def RC (Rs : AP) (σr : St) (σ : List Sl) : AP := fun q => Rs q ∨ MO σr σ q
theorem MM0 {ρ : List Addr} {h : List GO} {q : Addr} (z : MM ρ [] (G0 h) q) : MH ρ h q := by
  rcases z with z | ⟨i, o, e, _⟩
  · exact z
  · simp at e
theorem FSim.toCall (F : FSim K cid ρ Rs H σr s) : FSim K cid ρ (RC Rs σr s.σ) H [] (G0 s.h) ∧ Mv ρ ρ (UU ρ Rs σr s) (UU ρ (RC Rs σr s.σ) [] (G0 s.h)) H H := by
  have l : ∀ q, UU ρ (RC Rs σr s.σ) [] (G0 s.h) q → UU ρ Rs σr s q := fun q z => by
    rcases z with (z | z) | z
    · exact .inl z
    · exact .inr (.inr z)
    · exact .inr (.inl (MM0 z))
  have m := Mv.less (ρ := ρ) (H := H) l
  refine ⟨⟨F.len, rfl, fun a o p e n ea => ?_, F.inj, fun i g e => by simp at e, fun i o e => by simp at e, fun i j o o' p e => by simp at e, fun p z => ?_⟩, m⟩
  · obtain ⟨r, q⟩ := F.hp a o p e n ea
    refine ⟨OR.mv m rfl r, fun z => ?_⟩
    rcases z with z | ⟨i, o', e2, e3⟩
    · exact q z
    · obtain ⟨p', e4, _, _, q2⟩ := F.ow i o' e2
      rw [e3] at e4; cases e4
      exact q2 ⟨a, o, e, n, ea⟩
  · rcases z with z | z
    · exact F.dom p z
    · exact F.mdom (.inr z)
theorem FSim.ofCall (F : FSim K cid ρ Rs H σr s) (x : Ext ρ ρ' (MM ρ [] (G0 s.h)) (MM ρ' [] (G0 h')) H H') (F' : FSim K cid ρ' (RC Rs σr s.σ) H' [] (G0 h')) :
    FSim K cid ρ' Rs H' σr { s with h := h' } ∧ Ext ρ ρ' (MM ρ σr s) (MM ρ' σr { s with h := h' }) H H' ∧ (∀ q, UU ρ' Rs σr { s with h := h' } q → UU ρ' (RC Rs σr s.σ) [] (G0 h') q) := by
  have l : ∀ q, UU ρ' Rs σr { s with h := h' } q → UU ρ' (RC Rs σr s.σ) [] (G0 h') q := fun q z => by
    rcases z with z | z | z
    · exact .inl (.inl z)
    · exact .inr (.inl z)
    · exact .inl (.inr z)
  have m' : Mv ρ' ρ' (UU ρ' (RC Rs σr s.σ) [] (G0 h')) (UU ρ' Rs σr { s with h := h' }) H' H' := Mv.less l
  have m : Mv ρ ρ' (UU ρ Rs σr s) (UU ρ' Rs σr { s with h := h' }) H H' := x.mv (fun p z => .inr (.inl (MM0 z))) fun p z => by
    rcases z with z | z | z
    · exact .inl (.inl z)
    · rcases x.mb p (.inl z) with y | y
      · exact .inl (.inr (.inl (MM0 y)))
      · exact .inr y
    · exact .inl (.inr (.inr z))
  refine ⟨⟨F'.len, F.lens, fun a o p e n ea => ?_, F'.inj, fun i g e => ?_, fun i o e => ?_, F.oinj, fun p z => F'.dom p (.inl z)⟩, ⟨x.pre, fun p o n e => x.keep p o (fun z => n (.inl (MM0 z))) e, x.dom, fun p z => ?_⟩, l⟩
  · obtain ⟨r, q⟩ := F'.hp a o p e n ea
    exact ⟨OR.mv m' rfl r, fun z => q (.inl z)⟩
  · obtain ⟨v, e2, r⟩ := F.sl i g e
    exact ⟨v, e2, RV.mv m r⟩
  · obtain ⟨p, e2, r, q, q2⟩ := F.ow i o e
    obtain ⟨u, hu, _⟩ := OR.some r
    refine ⟨p, e2, OR.mv m ((x.keep p u (fun z => q2 (MM0 z)) hu).trans hu.symm) r, q, fun z => ?_⟩
    rcases x.mb p (.inl z) with y | y
    · exact q2 (MM0 y)
    · rw [hu] at y; cases y
  · rcases z with z | z
    · rcases x.mb p (.inl z) with y | y
      · exact .inl (.inl (MM0 y))
      · exact .inr y
    · exact .inl (.inr z)
/-- a def's frame at its start -/
theorem FSim.start {gs : List GV} {vs : List V} {h : List GO} {n : Nat} (F : FSim K cid ρ Rs H [] (G0 h)) (r : RVs K cid ρ (UU ρ Rs [] (G0 h)) H gs vs) :
    FSim K cid ρ Rs H (vs.map some ++ List.replicate (n - vs.length) none) ⟨gs.map Sl.val ++ List.replicate (n - gs.length) Sl.no, h⟩ ∧
      (∀ q, MM ρ (vs.map some ++ List.replicate (n - vs.length) none) ⟨gs.map Sl.val ++ List.replicate (n - gs.length) Sl.no, h⟩ q → MM ρ [] (G0 h) q) := by
  have hl := r.length
  have no : ∀ (i : Nat) (o : GO), (gs.map Sl.val ++ List.replicate (n - gs.length) Sl.no)[i]? ≠ some (.own o) := fun i o e => by
    have := List.mem_of_getElem? e
    rw [List.mem_append] at this
    rcases this with z | z
    · obtain ⟨g, _, e⟩ := List.mem_map.mp z; cases e
    · have := (List.mem_replicate.mp z).2; cases this
  have l : ∀ q, MM ρ (vs.map some ++ List.replicate (n - vs.length) none) ⟨gs.map Sl.val ++ List.replicate (n - gs.length) Sl.no, h⟩ q → MM ρ [] (G0 h) q := fun q z => by
    rcases z with z | ⟨i, o, e, _⟩
    · exact .inl z
    · exact (no i o e).elim
  have m := Mv.less (ρ := ρ) (H := H) (U := UU ρ Rs [] (G0 h)) (U' := UU ρ Rs (vs.map some ++ List.replicate (n - vs.length) none) ⟨gs.map Sl.val ++ List.replicate (n - gs.length) Sl.no, h⟩) fun q z => z.imp (fun z => z) (l q)
  refine ⟨⟨F.len, by simp [hl], fun a o p e n ea => ?_, F.inj, fun i g e => ?_, fun i o e => (no i o e).elim, fun i j o o' p e => (no i o e).elim, F.dom⟩, l⟩
  · obtain ⟨r, q⟩ := F.hp a o p e n ea
    exact ⟨OR.mv m rfl r, q⟩
  · have e' : (gs.map Sl.val ++ List.replicate (n - gs.length) Sl.no)[i]? = some (.val g) := e
    by_cases z : i < gs.length
    · rw [List.getElem?_append_left (by simpa using z), List.getElem?_map] at e'
      cases q : gs[i]? with
      | none => rw [q] at e'; cases e'
      | some g' =>
        rw [q] at e'
        cases e'
        obtain ⟨v, e2, rv⟩ := r.at q
        refine ⟨v, ?_, RV.mv m rv⟩
        rw [List.getElem?_append_left (by rw [List.length_map, ← hl]; exact z), List.getElem?_map, e2]
        rfl
    · rw [List.getElem?_append_right (by simpa using z)] at e'
      have := List.mem_of_getElem? e'
      have := (List.mem_replicate.mp this).2
      cases this
/-- a def's frame at its end: the heap alone -/
theorem FSim.end_ (F : FSim K cid ρ Rs H σr s) : FSim K cid ρ Rs H [] (G0 s.h) ∧ (∀ q, MM ρ [] (G0 s.h) q → MM ρ σr s q) ∧ Mv ρ ρ (UU ρ Rs σr s) (UU ρ Rs [] (G0 s.h)) H H := by
  have l : ∀ q, MM ρ [] (G0 s.h) q → MM ρ σr s q := fun q z => .inl (MM0 z)
  have m := Mv.less (ρ := ρ) (H := H) (U := UU ρ Rs σr s) (U' := UU ρ Rs [] (G0 s.h)) fun q z => z.imp (fun z => z) (l q)
  refine ⟨⟨F.len, rfl, fun a o p e n ea => ?_, F.inj, fun i g e => by simp at e, fun i o e => by simp at e, fun i j o o' p e => by simp at e, F.dom⟩, l, m⟩
  obtain ⟨r, q⟩ := F.hp a o p e n ea
  exact ⟨OR.mv m rfl r, q⟩
end
end GI
set_option Elab.async false
set_option linter.all false
set_option maxRecDepth 100000
/-! GI.Exp: an expression of the text does what the interpreter does. -/
namespace GI
open PySem PySem.Spec PyProof.Rows L2
section
variable {K : PySem.W.Frag} {cid : Nat → Addr} {W : L2.WX} {σr : St} {ρ ρ1 ρ2 : List Addr} {Rs R1 R2 : AP} {H H1 H2 : Hp} {s s1 s2 : GS}
theorem EVR.step {x : EV} {v : V} (h : EVR K cid ρ1 (UU ρ1 R1 σr s1) H1 σr x v) (F1 : FSim K cid ρ1 R1 H1 σr s1) (hx : ∀ q, Xv x v q → R1 q) (e : Ext ρ1 ρ2 (MM ρ1 σr s1) (MM ρ2 σr s2) H1 H2)
    (hR : ∀ q, R2 q → R1 q ∨ H1 q = none) : EVR K cid ρ2 (UU ρ2 R2 σr s2) H2 σr x v := by
  refine EVR.mv (e.mv (fun p z => .inr z) fun p z => ?_) (fun p z => ?_) h
  · rcases z with z | z
    · exact (hR p z).imp .inl id
    · exact (e.mb p z).imp .inr id
  · have r := hx p z
    cases q : H1 p with
    | none => exact absurd q (F1.dom p r)
    | some o => rw [e.keep p o (fun y => F1.apart y r) q]
theorem EVRs.step : ∀ {xs : List EV} {vs : List V}, EVRs K cid ρ1 (UU ρ1 R1 σr s1) H1 σr xs vs → FSim K cid ρ1 R1 H1 σr s1 → (∀ q, Xs xs vs q → R1 q) → Ext ρ1 ρ2 (MM ρ1 σr s1) (MM ρ2 σr s2) H1 H2 →
    (∀ q, R2 q → R1 q ∨ H1 q = none) → EVRs K cid ρ2 (UU ρ2 R2 σr s2) H2 σr xs vs
  | [], [], _, _, _, _, _ => True.intro
  | x :: xs, v :: vs, h, F, hx, e, hR => ⟨EVR.step h.1 F (fun q z => hx q (.inl z)) e hR, EVRs.step h.2 F (fun q z => hx q (.inr z)) e hR⟩
  | [], _ :: _, h, _, _, _, _ => h.elim
  | _ :: _, [], h, _, _, _, _ => h.elim
theorem RV.step {g : GV} {v : V} (h : RV K cid ρ1 (UU ρ1 R1 σr s1) H1 g v) (e : Ext ρ1 ρ2 (MM ρ1 σr s1) (MM ρ2 σr s2) H1 H2) (hR : ∀ q, R2 q → R1 q ∨ H1 q = none) : RV K cid ρ2 (UU ρ2 R2 σr s2) H2 g v :=
  RV.mv (e.mv (fun p z => .inr z) fun p z => z.elim (fun z => (hR p z).imp .inl id) fun z => (e.mb p z).imp .inr id) h
theorem RVs.step {g : List GV} {v : List V} (h : RVs K cid ρ1 (UU ρ1 R1 σr s1) H1 g v) (e : Ext ρ1 ρ2 (MM ρ1 σr s1) (MM ρ2 σr s2) H1 H2) (hR : ∀ q, R2 q → R1 q ∨ H1 q = none) : RVs K cid ρ2 (UU ρ2 R2 σr s2) H2 g v :=
  RVs.mv (e.mv (fun p z => .inr z) fun p z => z.elim (fun z => (hR p z).imp .inl id) fun z => (e.mb p z).imp .inr id) h
end
theorem _root_.L2.PE.imp {X : Cx} {e : Expr} {t t' : TE} (h : PE X e t) (f : ∀ σ H Q, t' σ H Q → t σ H Q) : PE X e t' := ⟨fun pins s σ H Q I q => h.run pins s σ H Q I (f σ H Q q)⟩
theorem _root_.L2.PT.imp {X : Cx} {e : Expr} {t t' : TT} (h : PT X e t) (f : ∀ σ H Q, t' σ H Q → t σ H Q) : PT X e t' := ⟨fun pins s σ H Q I q => h.run pins s σ H Q I (f σ H Q q)⟩
theorem _root_.L2.PA.imp {X : Cx} {e : List Expr} {t t' : TA} (h : PA X e t) (f : ∀ σ H Q, t' σ H Q → t σ H Q) : PA X e t' := ⟨fun pos pins s σ H Q I q => h.run pos pins s σ H Q I (f σ H Q q)⟩
theorem _root_.L2.PO.imp {X : Cx} {e : Option Expr} {t t' : TO} (h : PO X e t) (f : ∀ σ H Q, t' σ H Q → t σ H Q) : PO X e t' := ⟨fun pins s σ H Q I q => h.run pins s σ H Q I (f σ H Q q)⟩

section
variable (K : PySem.W.Frag) (cid : Nat → Addr) (W : L2.WX) (T : Tab) (F : CF)
def tE (ie : IE) : TE := fun σr H Q => ∃ ρ Rs s, FSim K cid ρ Rs H σr s ∧ Good K cid W σr ρ Rs H s (evE T F ie false s) (PostE K cid σr Rs Q)
def tT (ie : IE) : TT := fun σr H Q => ∃ ρ Rs s, FSim K cid ρ Rs H σr s ∧ Good K cid W σr ρ Rs H s (tst (evE T F ie true s)) (PostB K cid σr Rs Q)
def tL (ies : IEs) : TA := fun σr H Q => ∃ ρ Rs s, FSim K cid ρ Rs H σr s ∧ Good K cid W σr ρ Rs H s (evVs T F ies s) (PostL K cid σr Rs Q)
def tO (ie : IEo) : TO := fun σr H Q => ∃ ρ Rs s, FSim K cid ρ Rs H σr s ∧ Good K cid W σr ρ Rs H s (evO T F ie s) (PostB K cid σr Rs Q)
def tCo (ie : IEo) : TT := fun σr H Q => ∃ ρ Rs s, FSim K cid ρ Rs H σr s ∧ Good K cid W σr ρ Rs H s (evC T F ie s) (PostB K cid σr Rs Q)
end
section
variable {X : Cx} {cid : Nat → Addr} {W : L2.WX} {T : Tab} {F : CF} {a b c : IE} {ea eb ec : Expr} {pos : Pos}
abbrev SE (X : Cx) (cid : Nat → Addr) (W : L2.WX) (T : Tab) (F : CF) (ie : IE) (e : Expr) : Prop := PE X e (tE X.K cid W T F ie)
abbrev ST (X : Cx) (cid : Nat → Addr) (W : L2.WX) (T : Tab) (F : CF) (ie : IE) (e : Expr) : Prop := PT X e (tT X.K cid W T F ie)
abbrev SL (X : Cx) (cid : Nat → Addr) (W : L2.WX) (T : Tab) (F : CF) (ies : IEs) (es : List Expr) : Prop := PA X es (tL X.K cid W T F ies)

/-- two values in a row, then an operation -/
theorem two_vals {Q : V → V → Hp → Prop} {f : EV → EV → GS → R EV} {σ : St} {H : Hp} {ρ : List Addr} {Rs : AP} {s : GS} {P : Hp → EV → GS → List Addr → Hp → Prop} (hP : Up P) (Fs : FSim X.K cid ρ Rs H σ s)
    (G : Good X.K cid W σ ρ Rs H s ((evE T F a false s).bind fun x s1 => (evE T F b false s1).bind fun y s2 => f x y s2) P)
    (k : ∀ ρ2 H2 s2 R2 x y v w, (∀ q, Rs q → R2 q) → (∀ q, Xv x v q → R2 q) → (∀ q, Xv y w q → R2 q) → FSim X.K cid ρ2 R2 H2 σ s2 → EVR X.K cid ρ2 (UU ρ2 R2 σ s2) H2 σ x v → EVR X.K cid ρ2 (UU ρ2 R2 σ s2) H2 σ y w → Good X.K cid W σ ρ2 Rs H2 s2 (f x y s2) P → Q v w H2) :
    tE X.K cid W T F a σ H fun x H1 => tE X.K cid W T F b σ H1 fun y H2 => Q x y H2 := by
  refine ⟨ρ, Rs, s, Fs, (Good.bind hP G).imp fun x s1 ρ1 H1 e1 G1 => ?_⟩
  intro v hx F1 hv
  refine ⟨ρ1, Rx Rs x v, s1, F1, (Good.moreR (fun q z => .inl z) (Good.bind hP G1)).imp fun y s2 ρ2 H2 e2 G2 => ?_⟩
  intro w hy F2 hw
  exact k ρ2 H2 s2 _ x y v w (fun q z => .inl (.inl z)) (fun q z => .inl (.inr z)) (fun q z => .inr z) F2 (EVR.step hv F1 (fun q z => .inr z) e2 fun q z => z.imp id (hy q)) hw G2
theorem s_bin (op : Operator) (ha : SE X cid W T F a ea) (hb : SE X cid W T F b eb) : SE X cid W T F (.bin op a b) (.BinOp ea op eb pos) := by
  refine (pe_op (op_bin (cid := cid) op) ha hb).imp fun σ H Q ⟨ρ, Rs, s, Fs, G⟩ => ?_
  refine two_vals (f := fun x y s2 => lift (binop op (rd s2 x) (rd s2 y)) s2 .ok) up_E Fs G fun ρ2 H2 s2 R2 x y v w hR hxx hyy F2 hv hw G2 => ?_
  exact ⟨W, σ, ρ2, Rs, R2, s2, x, y, hR, F2, hv, hw, G2⟩
theorem s_cmp (hu : X.A.units + 65 < cLine) (op : CmpOp) (ha : SE X cid W T F a ea) (hb : SE X cid W T F b eb) (hm : behindInMarks op eb = false) : SE X cid W T F (.cmp op a b) (.Compare ea [op] [eb] pos) := by
  refine (pe_cmpR (op_cmp (cid := cid) hu op) ha hb hm).imp fun σ H Q ⟨ρ, Rs, s, Fs, G⟩ => ?_
  refine two_vals (f := fun x y s2 => lift (cmpop op (rd s2 x) (rd s2 y)) s2 fun t => .ok (.g (.bl t))) up_E Fs G fun ρ2 H2 s2 R2 x y v w hR hxx hyy F2 hv hw G2 => ?_
  exact ⟨W, σ, ρ2, Rs, R2, s2, x, y, hR, F2, hv, hw, G2⟩
theorem tst_bl {K : PySem.W.Frag} {σr : St} {ρ : List Addr} {Rs : AP} {H : Hp} {s : GS} {r : R EV} {Q : Bool → Hp → Prop} (h : Good K cid W σr ρ Rs H s (tst r) (PostB K cid σr Rs Q)) :
    Good K cid W σr ρ Rs H s r (PostE K cid σr Rs fun x H' => ∃ k, x = .bl k ∧ Q k H') := by
  refine (Good.bind up_B h).imp fun x s1 ρ1 H1 e G => ?_
  intro v hx F1 hv
  cases x with
  | g g =>
    cases g with
    | bl b => exact ⟨b, hv, G.valb (F1.weak fun _ z => .inl z)⟩
    | _ => exact G.elim
  | slot i => exact G.elim
  | new o => exact G.elim
theorem st_cmp (hu : X.A.units + 65 < cLine) (op : CmpOp) (ha : SE X cid W T F a ea) (hb : SE X cid W T F b eb) (hm : behindInMarks op eb = false) : ST X cid W T F (.cmp op a b) (.Compare ea [op] [eb] pos) := by
  refine (pt_cmpR (op_cmp (cid := cid) hu op) ha hb hm).imp fun σ H Q ⟨ρ, Rs, s, Fs, G⟩ => ?_
  refine two_vals (f := fun x y s2 => lift (cmpop op (rd s2 x) (rd s2 y)) s2 fun t => .ok (.g (.bl t))) up_E Fs (tst_bl G) fun ρ2 H2 s2 R2 x y v w hR hxx hyy F2 hv hw G2 => ?_
  exact ⟨W, σ, ρ2, Rs, R2, s2, x, y, hR, F2, hv, hw, G2⟩
theorem s_ix (ha : SE X cid W T F a ea) (hb : SE X cid W T F b eb) (hs : PlainIx eb) : SE X cid W T F (.ix a b) (.Subscript ea eb pos) := by
  refine (pe_ix (ix_G (cid := cid)) ha hb hs).imp fun σ H Q ⟨ρ, Rs, s, Fs, G⟩ => ?_
  refine two_vals (f := fun x y s2 => lift (gix (rd s2 x) (rd s2 y)) s2 fun v => .ok (.g v)) up_E Fs G fun ρ2 H2 s2 R2 x y v w hR hxx hyy F2 hv hw G2 => ?_
  exact ⟨W, σ, ρ2, Rs, R2, s2, x, y, hR, F2, hv, hw, G2⟩
/-- a op b op' c -/
theorem tchain {Q : VK} {σ : St} {H : Hp} {op op' : CmpOp} (h : tE X.K cid W T F (.chn op op' a b c) σ H Q) :
    tChain (Cons2 X.K cid fun gx gy s => lift (cmpop op gx gy) s fun t => .ok (.g (.bl t))) (Cons2 X.K cid fun gx gy s => lift (cmpop op' gx gy) s fun t => .ok (.g (.bl t))) (tE X.K cid W T F a) (tE X.K cid W T F b) (tE X.K cid W T F c) σ H Q := by
  obtain ⟨ρ, Rs, s, Fs, G⟩ := h
  refine two_vals (f := fun x y s2 => lift (cmpop op (rd s2 x) (rd s2 y)) s2 fun t s3 => if t then (evE T F c false s3).bind fun z s4 => lift (cmpop op' (rd s4 y) (rd s4 z)) s4 fun t' => .ok (.g (.bl t')) else .ok (.g (.bl false)) s3) up_E Fs G fun ρ2 H2 s2 R2 x y v w hR hxx hyy F2 hv hw G2 => ?_
  obtain ⟨t, et, G3⟩ := lift_good G2
  refine ⟨W, σ, ρ2, R2, R2, s2, x, y, fun _ z => z, F2, hv, hw, ?_⟩
  dsimp only
  rw [et]
  refine fun ρ3 H3 e3 k hk F3 hk2 => ⟨t, hk2, ?_⟩
  have G4 := Good.from up_E e3 G3
  cases t with
  | false =>
    rw [if_neg Bool.false_ne_true] at G4 ⊢
    exact G4.val (F3.weak fun q z => .inl (hR q z)) rfl
  | true =>
    rw [if_pos rfl] at G4 ⊢
    have F3' : FSim X.K cid ρ3 R2 H3 σ s2 := F3.weak fun q z => .inl z
    refine ⟨ρ3, R2, s2, F3', (Good.moreR hR (Good.bind up_E G4)).imp fun z s4 ρ4 H4 e4 G5 => ?_⟩
    intro u hz F4 hu
    refine ⟨W, σ, ρ4, Rs, Rx R2 z u, s4, y, z, fun q z => .inl (hR q z), F4, EVR.step hw F2 hyy (e3.trans e4) (fun q z => z.imp id fun z => nn e3.dom (hz q z)), hu, G5⟩
theorem s_chn (hu : X.A.units + 65 < cLine) (op op' : CmpOp) (ha : SE X cid W T F a ea) (hb : SE X cid W T F b eb) (hc : SE X cid W T F c ec) (hm : lastMarks [op, op'] [eb, ec] = false) :
    SE X cid W T F (.chn op op' a b c) (.Compare ea [op, op'] [eb, ec] pos) :=
  (pe_chain (op_cmp (cid := cid) hu op) (op_cmp (cid := cid) hu op') ha hb hc hm).imp fun _ _ _ h => tchain h
theorem st_chn (hu : X.A.units + 65 < cLine) (op op' : CmpOp) (ha : SE X cid W T F a ea) (hb : SE X cid W T F b eb) (hc : SE X cid W T F c ec) (hm : lastMarks [op, op'] [eb, ec] = false) :
    ST X cid W T F (.chn op op' a b c) (.Compare ea [op, op'] [eb, ec] pos) :=
  (pt_chain (op_cmp (cid := cid) hu op) (op_cmp (cid := cid) hu op') ha hb hc hm).imp fun σ H Q h => by
    obtain ⟨ρ, Rs, s, Fs, G⟩ := h
    exact tchain ⟨ρ, Rs, s, Fs, tst_bl G⟩
theorem s_var {i : Nat} {x : Str} (hN : X.N[i]? = some x) (hv : Vis X.env.scope x) (hd : (x == ("__debug__" : Str)) = false) (hcd : (x == ("__classdict__" : Str)) = false) : SE X cid W T F (.var i) (.Name x pos) := by
  refine (pe_var hN hv hd hcd).imp fun σ H Q ⟨ρ, Rs, s, Fs, G⟩ => ?_
  have G' : Good X.K cid W σ ρ Rs H s (match s.σ[i]? with
    | some (.val v) => .ok (.g v) s
    | some (.own _) => .ok (.slot i) s
    | _ => .bad) (PostE X.K cid σ Rs Q) := G
  cases q : s.σ[i]? with
  | none => rw [q] at G'; exact G'.elim
  | some z =>
    rw [q] at G'
    cases z with
    | no => exact G'.elim
    | val g =>
      obtain ⟨v, e, r⟩ := Fs.sl i g q
      exact ⟨v, e, Good.val G' Fs r⟩
    | own o =>
      obtain ⟨p, e, r, _⟩ := Fs.ow i o q
      exact ⟨_, e, G' ρ H Ext.refl _ (fun _ z => z.elim) (Fs.weak fun _ z => z.elim id fun z => z.elim) e⟩
theorem con_ok {e : Expr} {g : GV} {v : V} (h : PE X e (tC v)) (hr : ∀ ρ U H, RV X.K cid ρ U H g v) : SE X cid W T F (.con g) e :=
  h.imp fun σ H Q ⟨ρ, Rs, s, Fs, G⟩ => Good.val (g := g) G Fs (hr _ _ _)
theorem s_un (op : UnaryOp) (ha : SE X cid W T F a ea) : SE X cid W T F (.un op a) (.UnaryOp op ea pos) := by
  refine (pe_un (un_op (cid := cid) op) ha).imp fun σ H Q ⟨ρ, Rs, s, Fs, G⟩ => ?_
  refine ⟨ρ, Rs, s, Fs, (Good.bind up_E G).imp fun x s1 ρ1 H1 e1 G1 => ?_⟩
  intro v hx F1 hv
  exact ⟨W, σ, ρ1, Rs, _, s1, x, fun q z => .inl z, F1, hv, G1⟩
/-- a value as a test -/
theorem st_val (h : SE X cid W T F a ea) (hf : ∀ s, evE T F a true s = fin true (evE T F a false s)) (he : ∀ whole, isTrue ea X.env whole = (do let v ← whole; standAt ea.pos; holding [v] (truthy v))) : ST X cid W T F a ea := by
  refine ⟨fun pins s σ H Q I hw => ?_⟩
  obtain ⟨ρ, Rs, gs, Fs, G⟩ := hw
  rw [hf] at G
  refine isTrue_plain (thn (h.run pins s σ H (fun vx H1 => ∃ (W : L2.WX) (σr : St) (ρ : List Addr) (Rs Rs2 : AP) (s : GS) (x : EV), (∀ q, Rs q → Rs2 q) ∧ FSim X.K cid ρ Rs2 H1 σr s ∧
    EVR X.K cid ρ (UU ρ Rs2 σr s) H1 σr x vx ∧ Good X.K cid W σr ρ Rs H1 s (lift (truth (rd s x)) s .ok) (PostB X.K cid σr Rs Q)) I ⟨ρ, Rs, gs, Fs, ?_⟩) fun v s1 ⟨x, H1, I1, r1, q1⟩ => ?_) (he _)
  · have G' : Good X.K cid W σ ρ Rs H gs ((evE T F a false gs).bind fun x s1 => (lift (truth (rd s1 x)) s1 fun b => .ok (.g (.bl b)) : R EV).bind fun y s2 => (match y with
        | .g (.bl b) => .ok b s2
        | _ => .bad)) (PostB X.K cid σ Rs Q) := by
      have e : tst (fin true (evE T F a false gs)) = (evE T F a false gs).bind fun x s1 => (lift (truth (rd s1 x)) s1 fun b => .ok (.g (.bl b)) : R EV).bind fun y s2 => (match y with
        | .g (.bl b) => .ok b s2
        | _ => .bad) := by
        unfold tst fin
        rw [if_pos rfl]
        cases evE T F a false gs <;> rfl
      rw [← e]; exact G
    refine (Good.bind up_B G').imp fun x s1 ρ1 H1 e1 G1 => ?_
    intro v hx F1 hv
    refine ⟨W, σ, ρ1, Rs, _, s1, x, fun q z => .inl z, F1, hv, ?_⟩
    cases q : truth (rd s1 x) with
    | none => rw [q] at G1; exact G1.elim
    | some b => rw [q] at G1; exact G1
  · exact tru_G pins s1 σ H1 x v Q I1 r1 q1
theorem st_not (ha : ST X cid W T F a ea) : ST X cid W T F (.not_ a) (.UnaryOp .Not ea pos) := by
  refine (pt_not ha).imp fun σ H Q ⟨ρ, Rs, s, Fs, G⟩ => ?_
  refine ⟨ρ, Rs, s, Fs, ?_⟩
  have e : tst (evE T F (.not_ a) true s) = (tst (evE T F a true s)).bind fun b s1 => .ok (!b) s1 := by
    have : evE T F (.not_ a) true s = (tst (evE T F a true s)).bind fun b s1 => .ok (.g (.bl (!b))) s1 := by rfl
    rw [this]
    cases tst (evE T F a true s) <;> rfl
  rw [e] at G
  exact (Good.bind up_B G).imp fun b s1 ρ1 H1 e1 G1 F1 => G1.valb F1
theorem st_and (ha : ST X cid W T F a ea) {rest : List Expr} (hr : PW X (.BoolOp .And (eb :: rest) pos) (tT X.K cid W T F b)) : PW X (.BoolOp .And (ea :: eb :: rest) pos) (tT X.K cid W T F (.and_ a b)) := by
  refine ⟨fun wh pins s σ H Q I h => (pw_and ha hr).run wh pins s σ H Q I ?_⟩
  obtain ⟨ρ, Rs, s, Fs, G⟩ := h
  have e : tst (evE T F (.and_ a b) true s) = (tst (evE T F a true s)).bind fun t s1 => if t then tst (evE T F b true s1) else .ok false s1 := by
    have : evE T F (.and_ a b) true s = (tst (evE T F a true s)).bind fun t s1 => if t then evE T F b true s1 else .ok (.g (.bl false)) s1 := by rfl
    rw [this]
    cases tst (evE T F a true s) with
    | ok t s1 => cases t <;> rfl
    | exc c fs s1 => rfl
    | bad => rfl
  rw [e] at G
  refine ⟨ρ, Rs, s, Fs, (Good.bind up_B G).imp fun t s1 ρ1 H1 e1 G1 F1 => ?_⟩
  cases t with
  | true => exact ⟨ρ1, Rs, s1, F1, G1⟩
  | false => exact G1.valb F1
theorem st_or (ha : ST X cid W T F a ea) {rest : List Expr} (hr : PW X (.BoolOp .Or (eb :: rest) pos) (tT X.K cid W T F b)) : PW X (.BoolOp .Or (ea :: eb :: rest) pos) (tT X.K cid W T F (.or_ a b)) := by
  refine ⟨fun wh pins s σ H Q I h => (pw_or ha hr).run wh pins s σ H Q I ?_⟩
  obtain ⟨ρ, Rs, s, Fs, G⟩ := h
  have e : tst (evE T F (.or_ a b) true s) = (tst (evE T F a true s)).bind fun t s1 => if t then .ok true s1 else tst (evE T F b true s1) := by
    have : evE T F (.or_ a b) true s = (tst (evE T F a true s)).bind fun t s1 => if t then .ok (.g (.bl true)) s1 else evE T F b true s1 := by rfl
    rw [this]
    cases tst (evE T F a true s) with
    | ok t s1 => cases t <;> rfl
    | exc c fs s1 => rfl
    | bad => rfl
  rw [e] at G
  refine ⟨ρ, Rs, s, Fs, (Good.bind up_B G).imp fun t s1 ρ1 H1 e1 G1 F1 => ?_⟩
  cases t with
  | true => exact G1.valb F1
  | false => exact ⟨ρ1, Rs, s1, F1, G1⟩
theorem s_and (ha : SE X cid W T F a ea) {rest : List Expr} (hr : SE X cid W T F b (.BoolOp .And (eb :: rest) pos)) : SE X cid W T F (.and_ a b) (.BoolOp .And (ea :: eb :: rest) pos) := by
  refine (pe_and ha hr).imp fun σ H Q ⟨ρ, Rs, s, Fs, G⟩ => ?_
  have G' : Good X.K cid W σ ρ Rs H s ((evE T F a false s).bind fun x s1 => (match rd s1 x with
    | .bl true => evE T F b false s1
    | .bl false => .ok (.g (.bl false)) s1
    | _ => .bad)) (PostE X.K cid σ Rs Q) := G
  refine ⟨ρ, Rs, s, Fs, (Good.bind up_E G').imp fun x s1 ρ1 H1 e1 G1 => ?_⟩
  intro v hx F1 hv
  have hw := F1.rd hv
  have F1' : FSim X.K cid ρ1 Rs H1 σ s1 := F1.weak fun _ z => .inl z
  split at G1
  · rename_i q
    rw [q] at hw
    exact ⟨true, hw, by rw [if_pos rfl]; exact ⟨ρ1, Rs, s1, F1', G1⟩⟩
  · rename_i q
    rw [q] at hw
    exact ⟨false, hw, by rw [if_neg Bool.false_ne_true]; exact G1.val F1' rfl⟩
  · exact G1.elim
theorem s_or (ha : SE X cid W T F a ea) {rest : List Expr} (hr : SE X cid W T F b (.BoolOp .Or (eb :: rest) pos)) : SE X cid W T F (.or_ a b) (.BoolOp .Or (ea :: eb :: rest) pos) := by
  refine (pe_or ha hr).imp fun σ H Q ⟨ρ, Rs, s, Fs, G⟩ => ?_
  have G' : Good X.K cid W σ ρ Rs H s ((evE T F a false s).bind fun x s1 => (match rd s1 x with
    | .bl true => .ok (.g (.bl true)) s1
    | .bl false => evE T F b false s1
    | _ => .bad)) (PostE X.K cid σ Rs Q) := G
  refine ⟨ρ, Rs, s, Fs, (Good.bind up_E G').imp fun x s1 ρ1 H1 e1 G1 => ?_⟩
  intro v hx F1 hv
  have hw := F1.rd hv
  have F1' : FSim X.K cid ρ1 Rs H1 σ s1 := F1.weak fun _ z => .inl z
  split at G1
  · rename_i q
    rw [q] at hw
    exact ⟨true, hw, by rw [if_pos rfl]; exact G1.val F1' rfl⟩
  · rename_i q
    rw [q] at hw
    exact ⟨false, hw, by rw [if_neg Bool.false_ne_true]; exact ⟨ρ1, Rs, s1, F1', G1⟩⟩
  · exact G1.elim
theorem s_not (ha : SE X cid W T F a ea) : SE X cid W T F (.not_ a) (.UnaryOp .Not ea pos) := by
  refine ⟨fun pins s σ H Q I hw => ?_⟩
  obtain ⟨ρ, Rs, gs, Fs, G⟩ := hw
  have G' : Good X.K cid W σ ρ Rs H gs ((evE T F a false gs).bind fun x s1 => lift (truth (rd s1 x)) s1 fun b => .ok (.g (.bl (!b)))) (PostE X.K cid σ Rs Q) := G
  refine UnaryOp_ (thn (ha.run pins s σ H (fun vx H1 => ∃ (W : L2.WX) (σr : St) (ρ : List Addr) (Rs Rs2 : AP) (s : GS) (x : EV), (∀ q, Rs q → Rs2 q) ∧ FSim X.K cid ρ Rs2 H1 σr s ∧
    EVR X.K cid ρ (UU ρ Rs2 σr s) H1 σr x vx ∧ Good X.K cid W σr ρ Rs H1 s (lift (truth (rd s x)) s .ok) (PostB X.K cid σr Rs fun k H' => Q (.bl (!k)) H')) I ⟨ρ, Rs, gs, Fs, ?_⟩) fun v s1 ⟨x, H1, I1, r1, q1⟩ => ?_)
  · refine (Good.bind up_E G').imp fun x s1 ρ1 H1 e1 G1 => ?_
    intro v hx F1 hv
    refine ⟨W, σ, ρ1, Rs, _, s1, x, fun q z => .inl z, F1, hv, ?_⟩
    cases q : truth (rd s1 x) with
    | none => rw [q] at G1; exact G1.elim
    | some b => rw [q] at G1; exact fun ρ2 H2 e2 F2 => Good.val (Good.from up_E e2 G1) F2 rfl
  · exact not_of (thn (tru_G pins s1 σ H1 x v _ I1 r1 q1) fun b s2 ⟨H2, I2, q2⟩ => ⟨.bl (!b), H2, I2, rfl, q2⟩)
theorem s_ife (hc : ST X cid W T F c ec) (ha : SE X cid W T F a ea) (hb : SE X cid W T F b eb) : SE X cid W T F (.ife c a b) (.IfExp ec ea eb pos) := by
  refine (pe_ifExp hc ha hb).imp fun σ H Q ⟨ρ, Rs, s, Fs, G⟩ => ?_
  have G' : Good X.K cid W σ ρ Rs H s ((tst (evE T F c true s)).bind fun t s1 => if t then evE T F a false s1 else evE T F b false s1) (PostE X.K cid σ Rs Q) := G
  refine ⟨ρ, Rs, s, Fs, (Good.bind up_E G').imp fun t s1 ρ1 H1 e1 G1 F1 => ?_⟩
  cases t with
  | true => exact ⟨ρ1, Rs, s1, F1, G1⟩
  | false => exact ⟨ρ1, Rs, s1, F1, G1⟩
/-! ### parts of a slice -/
theorem so_none : PO X none (tO X.K cid W T F .no) := po_none.imp fun σ H Q ⟨ρ, Rs, s, Fs, G⟩ => Good.valb (a := none) G Fs
theorem so_some (ha : SE X cid W T F a ea) : PO X (some ea) (tO X.K cid W T F (.so a)) := by
  refine (po_some ha).imp fun σ H Q ⟨ρ, Rs, s, Fs, G⟩ => ?_
  have G' : Good X.K cid W σ ρ Rs H s ((evE T F a false s).bind fun x s1 => (match rd s1 x with
    | .int i => .ok (some i) s1
    | _ => .bad)) (PostB X.K cid σ Rs Q) := G
  refine ⟨ρ, Rs, s, Fs, (Good.bind up_B G').imp fun x s1 ρ1 H1 e1 G1 => ?_⟩
  intro v hx F1 hv
  have hw := F1.rd hv
  split at G1
  · rename_i i q
    rw [q] at hw
    exact ⟨i, hw, G1.valb (F1.weak fun _ z => .inl z)⟩
  · exact G1.elim
theorem s_sl {lo hi : IEo} {elo ehi : Option Expr} {p2 : Pos} (ha : SE X cid W T F a ea) (hl : PO X elo (tO X.K cid W T F lo)) (hh : PO X ehi (tO X.K cid W T F hi)) : SE X cid W T F (.sl a lo hi) (.Subscript ea (.Slice elo ehi none p2) pos) := by
  refine (pe_slice (sl_G (cid := cid)) ha hl hh).imp fun σ H Q ⟨ρ, Rs, s, Fs, G⟩ => ?_
  have G' : Good X.K cid W σ ρ Rs H s ((evE T F a false s).bind fun x s1 => (evO T F lo s1).bind fun l s2 => (evO T F hi s2).bind fun u s3 => lift (gsl (rd s3 x) l u) s3 .ok) (PostE X.K cid σ Rs Q) := G
  refine ⟨ρ, Rs, s, Fs, (Good.bind up_E G').imp fun x s1 ρ1 H1 e1 G1 => ?_⟩
  intro v hx F1 hv
  refine ⟨ρ1, _, s1, F1, (Good.moreR (fun q z => .inl z) (Good.bind up_E G1)).imp fun l s2 ρ2 H2 e2 G2 F2 => ?_⟩
  refine ⟨ρ2, _, s2, F2, (Good.moreR (fun q z => .inl z) (Good.bind up_E G2)).imp fun u s3 ρ3 H3 e3 G3 F3 => ?_⟩
  exact ⟨W, σ, ρ3, Rs, _, s3, x, fun q z => .inl z, F3, EVR.step hv F1 (fun q z => .inr z) (e2.trans e3) (fun q z => .inl z), G3⟩
/-! ### lists of expressions -/
theorem sl_nil : SL X cid W T F .nil [] := pa_nil.imp fun σ H Q ⟨ρ, Rs, s, Fs, G⟩ => by
  have G' : Good X.K cid W σ ρ Rs H s (.ok [] s) (PostL X.K cid σ Rs Q) := G
  exact G' ρ H Ext.refl [] (fun _ z => z.elim) True.intro (Fs.weak fun _ z => z.elim id fun z => z.elim) True.intro
theorem sl_cons {r : IEs} {es : List Expr} (ha : SE X cid W T F a ea) (hr : SL X cid W T F r es) (hs : starEach (ea :: es) X.env = (false, eval ea X.env) :: starEach es X.env) : SL X cid W T F (.cons a r) (ea :: es) := by
  refine (pa_cons ha hr hs).imp fun σ H Q ⟨ρ, Rs, s, Fs, G⟩ => ?_
  have G' : Good X.K cid W σ ρ Rs H s ((evE T F a false s).bind fun x s1 => (evVs T F r s1).bind fun xs s2 => .ok (x :: xs) s2) (PostL X.K cid σ Rs Q) := G
  refine ⟨ρ, Rs, s, Fs, (Good.bind up_L G').eq.imp fun x s1 ρ1 H1 e1 ⟨q1, G1⟩ => ?_⟩
  intro v hx F1 hv
  refine ⟨ρ1, _, s1, F1, (Good.moreR (fun q z => .inl z) (Good.bind up_L G1)).eq.imp fun xs s2 ρ2 H2 e2 ⟨q2, G2⟩ => ?_⟩
  intro vs hxs hd F2 hvs
  have hv2 := EVR.step hv F1 (fun q z => .inr z) e2 (R2 := fun q => Rx Rs x v q ∨ Xs xs vs q) fun q z => z.imp id (hxs q)
  rw [q1, bind_ok, q2, bind_ok] at G'
  have lt : ∀ q, (Rs q ∨ Xs (x :: xs) (v :: vs) q) → (Rx Rs x v q ∨ Xs xs vs q) := fun q z => by
    rcases z with z | z | z
    · exact .inl (.inl z)
    · exact .inl (.inr z)
    · exact .inr z
  have m : Mv ρ2 ρ2 (UU ρ2 (fun q => Rx Rs x v q ∨ Xs xs vs q) σ s2) (UU ρ2 (fun q => Rs q ∨ Xs (x :: xs) (v :: vs) q) σ s2) H2 H2 := Mv.less fun q z => z.imp (lt q) id
  refine G' ρ2 H2 (e1.trans e2) (v :: vs) (fun q z => ?_) ⟨fun q z y => ?_, hd⟩ (F2.weak lt) ⟨EVR.mv m (fun _ _ => rfl) hv2, EVRs.mv m (fun _ _ => rfl) hvs⟩
  · rcases z with z | z
    · exact hx q z
    · exact nn e1.dom (hxs q z)
  · have := hxs q y
    exact F1.dom q (.inr z) this
/-! ### displays -/
theorem mk_good {hp : Bool} {o : GO} {p : Addr} {u : HO} {K : PySem.W.Frag} {σ : St} {H : Hp} {ρ : List Addr} {Rs : AP} {s s0 : GS} {Q : VK} {ρ0 : List Addr} {H0 : Hp} (G : Good K cid W σ ρ0 Rs H0 s0 (mk hp o s) (PostE K cid σ Rs Q)) (e0 : Ext ρ0 ρ (MM ρ0 σ s0) (MM ρ σ s) H0 H)
    (Fs : FSim K cid ρ Rs H σ s) (hq : H p = none) (r : ∀ ρ' U' H', Mv ρ ρ' (UU ρ Rs σ s) U' H H' → H' p = some u → OR K cid ρ' U' H' p o) : Q (.ref p) (upd H p u) := by
  have G1 := Good.from up_E e0 G
  cases hp with
  | false => exact G1.new Fs hq r
  | true =>
    obtain ⟨F', m, x⟩ := Fs.fresh (u := u) hq
    obtain ⟨F2, hM⟩ := F'.lay (r _ _ _ m upd_same) (fun z => Fs.dom p z hq)
    refine G1 (ρ ++ [p]) (upd H p u) ?_ (.ref p) (fun _ z => z.elim) (F2.weak fun q z => z.elim id fun z => z.elim) ⟨p, rfl, ?_⟩
    · exact ⟨⟨[p], rfl⟩, x.keep, x.dom, fun q z => (hM q z).imp id fun z => by rw [z]; exact hq⟩
    · rw [Fs.len, List.getElem?_append_right (Nat.le_refl _), Nat.sub_self]; rfl
theorem s_lst {hp : Bool} {es : IEs} {ees : List Expr} (h : SL X cid W T F es ees) : SE X cid W T F (.lst hp es) (.List ees pos) := by
  refine (pe_lst h).imp fun σ H Q ⟨ρ, Rs, s, Fs, G⟩ => ?_
  have G' : Good X.K cid W σ ρ Rs H s ((evVs T F es s).bind fun xs s1 => if xs.length ≤ sizeLine then (mk hp (.lst (fzs s1 xs).1) (fzs s1 xs).2) else .bad) (PostE X.K cid σ Rs Q) := G
  refine ⟨ρ, Rs, s, Fs, (Good.bind up_E G').imp fun xs s1 ρ1 H1 e1 G1 => ?_⟩
  intro vs hx hd F1 hv
  split at G1
  · rename_i hz
    obtain ⟨F2, rs, hm, hh⟩ := FSim.fzs F1 hv hd (fun q z y => Fs.dom q y (hx q z))
    have hl : vs.length = xs.length := by
      have : ∀ {xs : List EV} {vs : List V}, EVRs X.K cid ρ1 (UU ρ1 (fun q => Rs q ∨ Xs xs vs q) σ s1) H1 σ xs vs → vs.length = xs.length := by
        intro xs vs h
        clear hv hz F1 hx hd rs hm hh F2 G1
        generalize UU ρ1 (fun q => Rs q ∨ Xs xs vs q) σ s1 = U at h
        induction xs generalizing vs with
        | nil => cases vs with
          | nil => rfl
          | cons _ _ => exact h.elim
        | cons x xs ih => cases vs with
          | nil => exact h.elim
          | cons v vs => rw [List.length_cons, List.length_cons, ih h.2]
      exact this hv
    refine ⟨by rw [hl]; exact hz, fun p hp' => ?_⟩
    refine mk_good (u := .lst vs) G1 (Ext.sub (B := MM ρ1 σ s1) Ext.refl hm) F2 hp' fun ρ' U' H' m e => ⟨vs, e, RVs.mv m rs⟩
  · exact G1.elim
theorem evrs_len {K : PySem.W.Frag} {ρ : List Addr} {U : AP} {H : Hp} {σr : St} : ∀ {xs : List EV} {vs : List V}, EVRs K cid ρ U H σr xs vs → vs.length = xs.length
  | [], [], _ => rfl
  | _ :: xs, _ :: vs, h => by rw [List.length_cons, List.length_cons, evrs_len h.2]
  | [], _ :: _, h => h.elim
  | _ :: _, [], h => h.elim
theorem s_tup {es : IEs} {ees : List Expr} {k : Nat} (h : SL X cid W T F es ees) : SE X cid W T F (.tup es) (.Tuple ees k pos) := by
  refine (pe_tup h).imp fun σ H Q ⟨ρ, Rs, s, Fs, G⟩ => ?_
  have G' : Good X.K cid W σ ρ Rs H s ((evVs T F es s).bind fun xs s1 => if xs.length ≤ sizeLine then (.ok (.g (.tup (fzs s1 xs).1)) (fzs s1 xs).2) else .bad) (PostE X.K cid σ Rs Q) := G
  refine ⟨ρ, Rs, s, Fs, (Good.bind up_E G').imp fun xs s1 ρ1 H1 e1 G1 => ?_⟩
  intro vs hx hd F1 hv
  split at G1
  · rename_i hz
    obtain ⟨F2, rs, hm, hh⟩ := FSim.fzs F1 hv hd (fun q z y => Fs.dom q y (hx q z))
    refine ⟨by rw [evrs_len hv]; exact hz, fun p hp' => ?_⟩
    exact (Good.from (ρ1 := ρ1) (s1 := (fzs s1 xs).2) up_E (Ext.sub (B := MM ρ1 σ s1) Ext.refl hm) G1).newv F2 hp' fun ρ' U' H' m nu e => ⟨p, vs, rfl, .inl ⟨nu, e⟩, RVs.mv m rs⟩
  · exact G1.elim
/-! ### built-in functions and methods -/
theorem bi_vals {n : Bi} {es : IEs} {σ : St} {H : Hp} {Q : VK} (h : tE X.K cid W T F (.bi n es) σ H Q) : tCB (rBi X.K cid n) (tL X.K cid W T F es) σ H Q := by
  obtain ⟨ρ, Rs, s, Fs, G⟩ := h
  have G' : Good X.K cid W σ ρ Rs H s ((evVs T F es s).bind fun xs s1 => lift (biF n (xs.map (rd s1))) s1 .ok) (PostE X.K cid σ Rs Q) := G
  refine ⟨ρ, Rs, s, Fs, (Good.bind up_E G').imp fun xs s1 ρ1 H1 e1 G1 => ?_⟩
  intro vs hx hd F1 hv
  exact ⟨W, σ, ρ1, Rs, _, s1, xs, fun q z => .inl z, F1, hv, G1⟩
def Bm.ty : Bm → String
  | .append => "list"
  | .pop => "list"
  | .join => "str"
theorem bm_on {K : PySem.W.Frag} {ρ : List Addr} {U : AP} {H : Hp} {m : Bm} {g : GV} {v : V} (h : VW K cid ρ U H g v) (e : m.on g = true) : tyV K m.ty v H := by
  cases m <;> cases g <;> simp only [Bm.on] at e <;> first | cases e | skip
  · obtain ⟨p, vs, rfl, hp, r⟩ := h
    exact .inl ⟨rfl, vs, SqL.of hp⟩
  · cases (show v = _ from h)
    rfl
  · obtain ⟨p, vs, rfl, hp, r⟩ := h
    exact .inl ⟨rfl, vs, SqL.of hp⟩
theorem bm_vals {n : Bm} {o : IE} {es : IEs} {σ : St} {H : Hp} {Q : VK} (h : tE X.K cid W T F (.bm o n es) σ H Q) : tBM X.K n.ty (rBm X.K cid n) (tE X.K cid W T F o) (tL X.K cid W T F es) σ H Q := by
  obtain ⟨ρ, Rs, s, Fs, G⟩ := h
  have G' : Good X.K cid W σ ρ Rs H s ((evE T F o false s).bind fun x s1 => if n.on (rd s1 x) then (evVs T F es s1).bind fun ys s2 => (match bmr n (rd s2 x) (ys.map (rd s2)) with
    | some r => .ok r s2
    | none => upo x (bmf n (fzs s2 ys).1) (fzs s2 ys).2) else .bad) (PostE X.K cid σ Rs Q) := G
  refine ⟨ρ, Rs, s, Fs, (Good.bind up_E G').imp fun x s1 ρ1 H1 e1 G1 => ?_⟩
  intro v hx F1 hv
  split at G1
  · rename_i hon
    refine ⟨bm_on (F1.rd hv) hon, ρ1, _, s1, F1, (Good.moreR (fun q z => .inl z) (Good.bind up_E G1)).imp fun ys s2 ρ2 H2 e2 G2 => ?_⟩
    intro vs hxs hd F2 hvs
    refine ⟨W, σ, ρ2, Rs, _, s2, x, ys, fun q z => .inl (.inl z), fun q z => .inr z, F2, EVR.step hv F1 (fun q z => .inr z) e2 fun q z => z.imp id (hxs q), hvs, hd, fun q z y => F1.dom q (.inl y) (hxs q z), G2⟩
  · exact G1.elim
end
end GI
set_option Elab.async false
set_option linter.all false
set_option maxRecDepth 100000
/-! GI.Cal: calls of the text's own functions, methods, classes. -/
namespace GI
open PySem PySem.Spec PyProof.Rows L2
/-- what a function promises, by its run -/
def spOf (K : PySem.W.Frag) (cid : Nat → Addr) (F : CF) (f n : Nat) : Sp := fun vs H Q E => vs.length = n ∧ ∃ ρ Rs h gs, FSim K cid ρ Rs H [] (G0 h) ∧ RVs K cid ρ (UU ρ Rs [] (G0 h)) H gs vs ∧ (match F f gs h with
  | .ok g h' => ∀ ρ' H' v, Ext ρ ρ' (MM ρ [] (G0 h)) (MM ρ' [] (G0 h')) H H' → FSim K cid ρ' Rs H' [] (G0 h') → RV K cid ρ' (UU ρ' Rs [] (G0 h')) H' g v → Q v H'
  | .exc c fs h' => ∀ ρ' H' dd l, Ext ρ ρ' (MM ρ [] (G0 h)) (MM ρ' [] (G0 h')) H H' → FSim K cid ρ' Rs H' [] (G0 h') → H' dd = some (.xd l) → RFs K cid ρ' (UU ρ' Rs [] (G0 h')) H' fs l → E (.ref (cid c)) (some dd) H'
  | .bad => False)
/-- a def that keeps a promise wherever no repr is under way -/
structure FnG (P : Program) (w : World) (K : PySem.W.Frag) (mg : Str → Option Value) (base : Heap) (k : Nat) (f : Addr) (fd : FuncData) (ps : List Str) (sp : Sp) : Prop where
  len : ∀ vs H Q E, sp vs H Q E → vs.length = ps.length
  run : ∀ (A : Around) (outer : List Env) (s : Shared) (H : Hp) (args : Args) (us : List Value) (vs : List V) (Q : VK) (E : XK), A.guards = some [] → Room k A → Env0 P w K mg base A outer s H → BindsTo s fd args (ps.zip us) → Vals vs us → sp vs H Q E →
    codeAny (model P w) A (.call (.ref f) args) (CR (L2.CX P w) outer P w H s Q E) s
/-- a value that stands for a ghost value always -/
def ConV (K : PySem.W.Frag) (cid : Nat → Addr) (g : GV) (v : V) : Prop := ∀ ρ U H, RV K cid ρ U H g v
def SrcOk (K : PySem.W.Frag) (cid : Nat → Addr) (us ws : List Value) : Src → Value → Prop
  | .pos i, u => us[i]? = some u
  | .kw j, u => ws[j]? = some u
  | .dfl g, u => ∃ v, RelV v u ∧ ConV K cid g v
/-- how a function of the text stands and is called -/
structure FnS (K : PySem.W.Frag) (cid : Nat → Addr) (d : GF) (a : Addr) (fd : FuncData) (ps : List Str) : Prop where
  ar : ps.length = d.arity
  kp : PySem.W.keepIn K (.ref a) = true
  len : ∀ (n : Nat) (ks : List String) (src : List Src), d.shapes.lookup (n, ks) = some src → src.length = d.arity
  bind : ∀ (n : Nat) (ks : List String) (src : List Src), d.shapes.lookup (n, ks) = some src → ∀ (s : Shared) (us ws : List Value), K.In s.heap → us.length = n → ws.length = ks.length →
    ∃ full, BindsTo s fd ⟨us, (ks.map Str.ofString).zip ws⟩ (ps.zip full) ∧ Paired (SrcOk K cid us ws) src full
section
variable {K : PySem.W.Frag} {cid : Nat → Addr} {W : L2.WX} {σr : St} {ρ : List Addr} {U : AP} {Rs : AP} {H : Hp} {s : GS} {T : Tab} {F : CF}
theorem bind_rv {gs gz : List GV} {vs zs : List V} {us ws : List Value} (rg : RVs K cid ρ U H gs vs) (rz : RVs K cid ρ U H gz zs) (v1 : Vals vs us) (v2 : Vals zs ws) : ∀ {src : List Src} {full : List Value} {l : List GV},
    bindG gs gz src = some l → Paired (SrcOk K cid us ws) src full → ∃ vl, RVs K cid ρ U H l vl ∧ Vals vl full
  | [], _, l, e, .nil => by cases e; exact ⟨[], rfl, .nil⟩
  | c :: src, u :: full, l, e, .cons ok r => by
    have e' : (match pick gs gz c, bindG gs gz src with
      | some v, some l => some (v :: l)
      | _, _ => none) = some l := e
    cases q1 : pick gs gz c with
    | none => rw [q1] at e'; cases e'
    | some g =>
      cases q2 : bindG gs gz src with
      | none => rw [q1, q2] at e'; cases e'
      | some l2 =>
        rw [q1, q2] at e'
        cases e'
        obtain ⟨vl, h1, h2⟩ := bind_rv rg rz v1 v2 q2 r
        cases c with
        | pos i =>
          obtain ⟨v, h3, h4⟩ := rg.at (show gs[i]? = some g from q1)
          obtain ⟨u', h5, h6⟩ := v1.get h3
          have ok' : us[i]? = some u := ok
          rw [h5] at ok'; cases ok'
          exact ⟨v :: vl, ⟨v, vl, rfl, h4, h1⟩, .cons h6 h2⟩
        | kw j =>
          obtain ⟨v, h3, h4⟩ := rz.at (show gz[j]? = some g from q1)
          obtain ⟨u', h5, h6⟩ := v2.get h3
          have ok' : ws[j]? = some u := ok
          rw [h5] at ok'; cases ok'
          exact ⟨v :: vl, ⟨v, vl, rfl, h4, h1⟩, .cons h6 h2⟩
        | dfl g' =>
          cases (show some g' = some g from q1)
          obtain ⟨v, h3, h4⟩ := ok
          exact ⟨v :: vl, ⟨v, vl, rfl, h4 _ _ _, h1⟩, .cons h3 h2⟩
/-- a call's run, seen by the callee -/
theorem call_sp {f n : Nat} {l : List GV} {vl : List V} {Q : VK} {W' : XK} (Fs : FSim K cid ρ Rs H σr s) (r : RVs K cid ρ (UU ρ Rs σr s) H l vl) (hn : vl.length = n)
    (hx : ∀ c d H', W' c d H' = W c d σr H')
    (G : Good K cid W σr ρ Rs H s (match F f l s.h with
      | .ok v h => .ok v { s with h := h }
      | .exc c fs h => .exc c fs { s with h := h }
      | .bad => (.bad : R GV)) fun _ g s' ρ' H' => FSim K cid ρ' Rs H' σr s' → ∀ v, RV K cid ρ' (UU ρ' Rs σr s') H' g v → Q v H') : spOf K cid F f n vl H Q W' := by
  obtain ⟨F0, m⟩ := Fs.toCall
  refine ⟨hn, ρ, _, s.h, l, F0, RVs.mv m r, ?_⟩
  cases q : F f l s.h with
  | ok g h' =>
    rw [q] at G
    intro ρ' H' v e F' rv
    obtain ⟨F2, e2, l2⟩ := Fs.ofCall e F'
    exact G ρ' H' e2 F2 v (RV.mv (Mv.less l2) rv)
  | exc c fs h' =>
    rw [q] at G
    intro ρ' H' dd l e F' hd rf
    obtain ⟨F2, e2, l2⟩ := Fs.ofCall e F'
    rw [hx]
    exact G ρ' H' dd l e2 F2 hd (RFs.mv (Mv.less l2) rf)
  | bad => rw [q] at G; exact G
/-- positional values and keywords' values, frozen -/
theorem FSim.fz2 {xs ys : List EV} {vs ws : List V} (F : FSim K cid ρ (fun q => (Rs q ∨ Xs xs vs q) ∨ Xs ys ws q) H σr s) (hx : EVRs K cid ρ (UU ρ (fun q => (Rs q ∨ Xs xs vs q) ∨ Xs ys ws q) σr s) H σr xs vs)
    (hy : EVRs K cid ρ (UU ρ (fun q => (Rs q ∨ Xs xs vs q) ∨ Xs ys ws q) σr s) H σr ys ws) (dx : Dis xs vs) (dy : Dis ys ws) (nx : ∀ q, Xs xs vs q → ¬ Rs q) (ny : ∀ q, Xs ys ws q → ¬ (Rs q ∨ Xs xs vs q)) :
    FSim K cid ρ Rs H σr (GI.fzs (GI.fzs s xs).2 ys).2 ∧ RVs K cid ρ (UU ρ Rs σr (GI.fzs (GI.fzs s xs).2 ys).2) H (GI.fzs s xs).1 vs ∧ RVs K cid ρ (UU ρ Rs σr (GI.fzs (GI.fzs s xs).2 ys).2) H (GI.fzs (GI.fzs s xs).2 ys).1 ws ∧
      (∀ q, MM ρ σr (GI.fzs (GI.fzs s xs).2 ys).2 q → MM ρ σr s q) ∧ (GI.fzs (GI.fzs s xs).2 ys).2.h = s.h := by
  have F1 : FSim K cid ρ (fun q => (Rs q ∨ Xs ys ws q) ∨ Xs xs vs q) H σr s := F.weak fun q z => by
    rcases z with (z | z) | z
    · exact .inl (.inl z)
    · exact .inr z
    · exact .inl (.inr z)
  have m1 : Mv ρ ρ (UU ρ (fun q => (Rs q ∨ Xs xs vs q) ∨ Xs ys ws q) σr s) (UU ρ (fun q => (Rs q ∨ Xs ys ws q) ∨ Xs xs vs q) σr s) H H := Mv.less fun q z => by
    rcases z with ((z | z) | z) | z
    · exact .inl (.inl (.inl z))
    · exact .inl (.inr z)
    · exact .inl (.inl (.inr z))
    · exact .inr z
  obtain ⟨F2, r1, h1, e1⟩ := FSim.fzs F1 (EVRs.mv m1 (fun _ _ => rfl) hx) dx (fun q z y => by
    rcases y with y | y
    · exact nx q z y
    · exact ny q y (.inr z))
  have m2 : Mv ρ ρ (UU ρ (fun q => (Rs q ∨ Xs xs vs q) ∨ Xs ys ws q) σr s) (UU ρ (fun q => Rs q ∨ Xs ys ws q) σr (GI.fzs s xs).2) H H := Mv.less fun q z => by
    rcases z with (z | z) | z
    · exact .inl (.inl (.inl z))
    · exact .inl (.inr z)
    · exact .inr (h1 q z)
  obtain ⟨F3, r2, h2, e2⟩ := FSim.fzs F2 (EVRs.mv m2 (fun _ _ => rfl) hy) dy (fun q z y => ny q z (.inl y))
  refine ⟨F3, RVs.mv (Mv.less fun q z => ?_) r1, r2, fun q z => h1 q (h2 q z), e2.trans e1⟩
  rcases z with z | z
  · exact .inl (.inl z)
  · exact .inr (h2 q z)
end
section
variable {X : Cx} {cid : Nat → Addr} {W : L2.WX} {T : Tab} {F : CF} {a : IE} {ea : Expr} {pos : Pos} {k : Nat}
/-- keywords' values -/
abbrev SK (X : Cx) (cid : Nat → Addr) (W : L2.WX) (T : Tab) (F : CF) (ies : IEs) (kws : List Keyword) : Prop := PK X kws (tL X.K cid W T F ies)
theorem _root_.L2.PK.imp {X : Cx} {e : List Keyword} {t t' : TA} (h : PK X e t) (f : ∀ σ H Q, t' σ H Q → t σ H Q) : PK X e t' := ⟨fun pos pins s σ H Q I q => h.run pos pins s σ H Q I (f σ H Q q)⟩
theorem sk_nil : SK X cid W T F .nil [] := pk_nil.imp fun σ H Q ⟨ρ, Rs, s, Fs, G⟩ => by
  have G' : Good X.K cid W σ ρ Rs H s (.ok [] s) (PostL X.K cid σ Rs Q) := G
  exact G' ρ H Ext.refl [] (fun _ z => z.elim) True.intro (Fs.weak fun _ z => z.elim id fun z => z.elim) True.intro
theorem tl_cons {r : IEs} {σ : St} {H : Hp} {Q : List V → Hp → Prop} (h : tL X.K cid W T F (.cons a r) σ H Q) : tCons (tE X.K cid W T F a) (tL X.K cid W T F r) σ H Q := by
  obtain ⟨ρ, Rs, s, Fs, G⟩ := h
  have G' : Good X.K cid W σ ρ Rs H s ((evE T F a false s).bind fun x s1 => (evVs T F r s1).bind fun xs s2 => .ok (x :: xs) s2) (PostL X.K cid σ Rs Q) := G
  refine ⟨ρ, Rs, s, Fs, (Good.bind up_L G').eq.imp fun x s1 ρ1 H1 e1 ⟨q1, G1⟩ => ?_⟩
  intro v hx F1 hv
  refine ⟨ρ1, _, s1, F1, (Good.moreR (fun q z => .inl z) (Good.bind up_L G1)).eq.imp fun xs s2 ρ2 H2 e2 ⟨q2, G2⟩ => ?_⟩
  intro vs hxs hd F2 hvs
  have hv2 := EVR.step hv F1 (fun q z => .inr z) e2 (R2 := fun q => Rx Rs x v q ∨ Xs xs vs q) fun q z => z.imp id (hxs q)
  rw [q1, bind_ok, q2, bind_ok] at G'
  have lt : ∀ q, (Rs q ∨ Xs (x :: xs) (v :: vs) q) → (Rx Rs x v q ∨ Xs xs vs q) := fun q z => by
    rcases z with z | z | z
    · exact .inl (.inl z)
    · exact .inl (.inr z)
    · exact .inr z
  have m : Mv ρ2 ρ2 (UU ρ2 (fun q => Rx Rs x v q ∨ Xs xs vs q) σ s2) (UU ρ2 (fun q => Rs q ∨ Xs (x :: xs) (v :: vs) q) σ s2) H2 H2 := Mv.less fun q z => z.imp (lt q) id
  refine G' ρ2 H2 (e1.trans e2) (v :: vs) (fun q z => ?_) ⟨fun q z y => ?_, hd⟩ (F2.weak lt) ⟨EVR.mv m (fun _ _ => rfl) hv2, EVRs.mv m (fun _ _ => rfl) hvs⟩
  · rcases z with z | z
    · exact hx q z
    · exact nn e1.dom (hxs q z)
  · have := hxs q y
    exact F1.dom q (.inr z) this
theorem sk_cons {r : IEs} {kws : List Keyword} {nm : Option Str} {kpos : Pos} (ha : SE X cid W T F a ea) (hr : SK X cid W T F r kws) : SK X cid W T F (.cons a r) (⟨nm, ea, kpos⟩ :: kws) :=
  (pk_cons ha hr).imp fun _ _ _ h => tl_cons h
/-- the callee runs -/
theorem run_fg {fa : Addr} {fd : FuncData} {ps : List Str} {sp : Sp} {pins : List (Addr × Obj)} {σ : St} {H : Hp} {s : Shared} {Q : VK} {us : List Value} {kw : List (Str × Value)} {full : List Value} {vl : List V}
    (tk : Takes X W) (Fg : FnG X.prog X.w X.K X.mg X.base k fa fd ps sp) (hg : X.A.guards = some []) (hr : Room k X.A) (I : Inv X pins σ H s) (hb : BindsTo s fd ⟨us, kw⟩ (ps.zip full)) (r : Vals vl full)
    (h : sp vl H Q fun c d H' => W c d σ H') : wpAny (model X.prog X.w) X.A (call (.ref fa) us kw) (EP X pins σ Q) X.xe s := by
  refine wpAny_call (codeAny_mono (Fg.run X.A X.stack s H ⟨us, kw⟩ full vl Q _ hg hr I.env0 hb r h) fun rs s' hq => ?_)
  cases rs with
  | error e => exact tk e s' (XE.of_call I (fun _ _ _ z => z) hq)
  | ok fl =>
    cases fl with
    | ret u => exact I.after hq
    | next => exact False.elim hq
    | brk => exact False.elim hq
    | cont => exact False.elim hq
/-! ### argument lists as they stand -/
def noStar : Expr → Bool
  | .Starred _ _ => false
  | _ => true
def noStars : List Expr → Bool
  | [] => true
  | e :: r => noStar e && noStars r
theorem star_each {e : Expr} {es : List Expr} {env : Env} (h : noStar e = true) : starEach (e :: es) env = (false, eval e env) :: starEach es env := by
  cases e <;> first | rfl | cases h
theorem star_any {env : Env} : ∀ {es : List Expr}, noStars es = true → (backTo pos (starEach es env)).any (·.1) = false
  | [], _ => rfl
  | e :: r, h => by
    have h' : (noStar e && noStars r) = true := h
    rw [Bool.and_eq_true] at h'
    rw [star_each h'.1]
    show (false || (backTo pos (starEach r env)).any (·.1)) = false
    rw [star_any h'.2]; rfl
def kwNames : List Keyword → List String → Bool
  | [], [] => true
  | ⟨some n, _, _⟩ :: r, k :: ks => decide (n = Str.ofString k) && kwNames r ks
  | _, _ => false
theorem kw_ok {env : Env} : ∀ {kws : List Keyword} {ks : List String}, kwNames kws ks = true → (backToKw pos (keywordEach kws env)).all (·.1.isSome) = true ∧ (backToKw pos (keywordEach kws env)).any (·.1.isNone) = false ∧
    (backToKw pos (keywordEach kws env)).filterMap (·.1) = ks.map Str.ofString ∧ kws.length = ks.length
  | [], [], _ => ⟨rfl, rfl, rfl, rfl⟩
  | [], _ :: _, h => by cases h
  | ⟨none, _, _⟩ :: _, [], h => by cases h
  | ⟨none, _, _⟩ :: _, _ :: _, h => by cases h
  | ⟨some _, _, _⟩ :: _, [], h => by cases h
  | ⟨some n, v, p⟩ :: r, k :: ks, h => by
    have h' : (decide (n = Str.ofString k) && kwNames r ks) = true := h
    rw [Bool.and_eq_true] at h'
    obtain ⟨h1, h2, h3, h4⟩ := kw_ok (env := env) h'.2
    have e := of_decide_eq_true h'.1
    subst e
    refine ⟨?_, ?_, ?_, by rw [List.length_cons, List.length_cons, h4]⟩
    · show (true && (backToKw pos (keywordEach r env)).all (·.1.isSome)) = true
      rw [h1]; rfl
    · show (false || (backToKw pos (keywordEach r env)).any (·.1.isNone)) = false
      rw [h2]; rfl
    · show Str.ofString k :: (backToKw pos (keywordEach r env)).filterMap (·.1) = _
      rw [h3]; rfl
structure Ars (X : Cx) (cid : Nat → Addr) (W : L2.WX) (T : Tab) (F : CF) (ies : IEs) (es : List Expr) : Prop where
  ok : SL X cid W T F ies es
  ns : noStars es = true
  nil : es = [] → ies = .nil
/-- the arguments, then the call -/
theorem callw {f : Value} {first : List Value} {es kes : IEs} {ees : List Expr} {kws : List Keyword} {ks : List String} {pins : List (Addr × Obj)} {σ : St} {H : Hp} {s : Shared} {Q : VK} {Rd : List V → List V → Hp → Prop} (hk : PySem.W.keepIn X.K f = true)
    (ha : Ars X cid W T F es ees) (hkw : SK X cid W T F kes kws) (hks : kwNames kws ks = true) (I : Inv X pins σ H s) (h : tL X.K cid W T F es σ H fun vs H1 => tL X.K cid W T F kes σ H1 fun zs H2 => Rd vs zs H2)
    (hf : ∀ (us ws : List Value) (s2 : Shared) (vs zs : List V) (H2 : Hp), Inv X pins σ H2 s2 → Vals vs us → Vals zs ws → Rd vs zs H2 → wpAny (model X.prog X.w) X.A (call f (first ++ us) ((ks.map Str.ofString).zip ws)) (EP X pins σ Q) X.xe s2) :
    wpAny (model X.prog X.w) X.A (callWith pos f first (backTo pos (starEach ees X.env)) (backToKw pos (keywordEach kws X.env))) (EP X pins σ Q) X.xe s := by
  obtain ⟨k1, k2, k3, _⟩ := kw_ok (pos := pos) (env := X.env) hks
  cases ees with
  | nil =>
    cases ha.nil rfl
    obtain ⟨ρ, Rs, gs, Fs, G⟩ := h
    have G' : Good X.K cid W σ ρ Rs H gs (.ok [] gs) (PostL X.K cid σ Rs fun vs H1 => tL X.K cid W T F kes σ H1 fun zs H2 => Rd vs zs H2) := G
    have h2 := G' ρ H Ext.refl [] (fun _ z => z.elim) True.intro (Fs.weak fun _ z => z.elim id fun z => z.elim) True.intro
    refine PySem.W.callWith_KW0 (h₀ := X.base) I.ok.mod.kin hk k1 (thn (hkw.run pos pins s σ H _ I h2) fun ws s2 ⟨zs, H2, I2, rz, q2⟩ => ⟨I2.kIn, ?_⟩) (by rw [k2]; rfl)
    rw [k3]
    exact hf [] ws s2 [] zs H2 I2 .nil rz q2
  | cons e es' =>
    have hns : noStar e = true ∧ noStars es' = true := by
      have := ha.ns
      have h' : (noStar e && noStars es') = true := this
      rwa [Bool.and_eq_true] at h'
    refine PySem.W.callWith_KW (h₀ := X.base) I.ok.mod.kin hk k1 (thn (ha.ok.run pos pins s σ H _ I h) fun us s1 ⟨vs, H1, I1, r, q⟩ => ?_) (by rw [star_any ha.ns, k2]; rfl) (star_each hns.1)
    refine thn (hkw.run pos pins s1 σ H1 _ I1 q) fun ws s2 ⟨zs, H2, I2, rz, q2⟩ => ⟨I2.kIn, ?_⟩
    rw [k3]
    exact hf us ws s2 vs zs H2 I2 r rz q2
/-- the two lists' reading, from the run -/
theorem call_vals {es kes : IEs} {σ : St} {H : Hp} {ρ : List Addr} {Rs : AP} {s : GS} {P : Hp → EV → GS → List Addr → Hp → Prop} {k : List GV → List GV → GS → R EV} {Rd : List V → List V → Hp → Prop} (hP : Up P) (Fs : FSim X.K cid ρ Rs H σ s)
    (G : Good X.K cid W σ ρ Rs H s ((evVs T F es s).bind fun xs s1 => (evVs T F kes s1).bind fun ys s2 => k (fzs s2 xs).1 (fzs (fzs s2 xs).2 ys).1 (fzs (fzs s2 xs).2 ys).2) P)
    (hk : ∀ ρ2 H2 s4 gs gz vs zs, Ext ρ ρ2 (MM ρ σ s) (MM ρ2 σ s4) H H2 → FSim X.K cid ρ2 Rs H2 σ s4 → RVs X.K cid ρ2 (UU ρ2 Rs σ s4) H2 gs vs → RVs X.K cid ρ2 (UU ρ2 Rs σ s4) H2 gz zs → Good X.K cid W σ ρ2 Rs H2 s4 (k gs gz s4) P → Rd vs zs H2) :
    tL X.K cid W T F es σ H fun vs H1 => tL X.K cid W T F kes σ H1 fun zs H2 => Rd vs zs H2 := by
  refine ⟨ρ, Rs, s, Fs, (Good.bind hP G).imp fun xs s1 ρ1 H1 e1 G1 => ?_⟩
  intro vs hx hd F1 hv
  refine ⟨ρ1, _, s1, F1, (Good.moreR (fun q z => .inl z) (Good.bind hP G1)).imp fun ys s2 ρ2 H2 e2 G2 => ?_⟩
  intro zs hy hd2 F2 hz
  have hv2 := EVRs.step hv F1 (fun q z => .inr z) e2 (R2 := fun q => (Rs q ∨ Xs xs vs q) ∨ Xs ys zs q) fun q z => z.imp id (hy q)
  obtain ⟨F4, r1, r2, hm, hh⟩ := FSim.fz2 F2 hv2 hz hd hd2 (fun q z y => Fs.dom q y (hx q z)) (fun q z y => F1.dom q y (hy q z))
  exact hk ρ2 H2 _ _ _ vs zs ((e1.trans e2).trans (Ext.sub (B := MM ρ2 σ s2) Ext.refl hm)) F4 r1 r2 (Good.from hP (Ext.sub (B := MM ρ2 σ s2) Ext.refl hm) G2)
/-- what follows a call of an own function -/
theorem callF_sp {f : Nat} {d : GF} {fa : Addr} {fd : FuncData} {ps : List Str} {σ : St} {H : Hp} {ρ : List Addr} {Rs : AP} {s : GS} {Q : VK} {gs gz : List GV} {ks : List String} {vs zs : List V} {us ws : List Value} {sh : Shared} (hd : T.fns f = some d) (S : FnS X.K cid d fa fd ps) (hK : X.K.In sh.heap)
    (Fs : FSim X.K cid ρ Rs H σ s) (r1 : RVs X.K cid ρ (UU ρ Rs σ s) H gs vs) (r2 : RVs X.K cid ρ (UU ρ Rs σ s) H gz zs) (v1 : Vals vs us) (v2 : Vals zs ws)
    (G : Good X.K cid W σ ρ Rs H s (callF T F f gs ks gz s) (PostE X.K cid σ Rs Q)) :
    ∃ full vl, BindsTo sh fd ⟨us, (ks.map Str.ofString).zip ws⟩ (ps.zip full) ∧ Vals vl full ∧ spOf X.K cid F f d.arity vl H Q fun c d H' => W c d σ H' := by
  unfold callF at G
  cases q : T.args f gs ks gz with
  | none => rw [q] at G; exact G.elim
  | some l =>
    rw [q] at G
    have q0 : (if gz.length = ks.length then (match d.shapes.lookup (gs.length, ks) with
      | some l => bindG gs gz l
      | none => none) else none) = some l := by
      have := q
      unfold Tab.args at this
      rw [hd] at this
      exact this
    have hl : gz.length = ks.length := by
      by_cases z : gz.length = ks.length
      · exact z
      · rw [if_neg z] at q0; cases q0
    rw [if_pos hl] at q0
    have q' := q0
    cases qs : d.shapes.lookup (gs.length, ks) with
    | none => rw [qs] at q'; cases q'
    | some src =>
      rw [qs] at q'
      obtain ⟨full, hb, hp⟩ := S.bind _ _ src qs sh us ws hK (by rw [← v1.length, r1.length]) (by rw [← v2.length, ← r2.length]; exact hl)
      obtain ⟨vl, h1, h2⟩ := bind_rv r1 r2 v1 v2 q' hp
      refine ⟨full, vl, hb, h2, call_sp Fs h1 ?_ (fun _ _ _ => rfl) ?_⟩
      · rw [← S.len _ _ src qs, Paired.length hp]; exact h2.length
      · simp only at G
        cases qf : F f l s.h with
        | ok g h' =>
          simp only [qf] at G ⊢
          intro ρ' H' e F' v rv
          exact G ρ' H' e v (fun _ z => z.elim) (F'.weak fun _ z => z.elim id fun z => z.elim) (RV.mv (Mv.less fun q z => by
            rcases z with (z | z) | z
            · exact .inl z
            · exact z.elim
            · exact .inr z) rv)
        | exc c fs h' => simp only [qf] at G ⊢; exact G
        | bad => simp only [qf] at G; exact G.elim
/-! ### the text's table holds -/
structure ClsS (K : PySem.W.Frag) (C : Addr) (d : GC) (fa : Nat → Addr) : Prop where
  cls : Cls K C
  meth : ∀ m f, d.meths.lookup m = some f → Meth K C (Str.ofString m) (fa f)
  noat : ∀ f, d.atts.contains f = true → NoAttr K C (Str.ofString f)
  make : ∀ f, d.init = some f → Mk K C (fa f)
structure TabOk (P : Program) (w : World) (K : PySem.W.Frag) (mg : Str → Option Value) (base : Heap) (cid fa : Nat → Addr) (T : Tab) (F : CF) (k : Nat) : Prop where
  fn : ∀ f d, T.fns f = some d → ∃ fd ps, FnS K cid d (fa f) fd ps ∧ FnG P w K mg base k (fa f) fd ps (spOf K cid F f d.arity)
  cl : ∀ c d, T.cls c = some d → ClsS K (cid c) d fa
  mf : ∀ c d m f, T.cls c = some d → d.meths.lookup m = some f → ∃ df, T.fns f = some df
theorem str_inj {a b : String} (h : Str.ofString a = Str.ofString b) : a = b := by
  rw [Str.ofString_eq_toList, Str.ofString_eq_toList] at h
  have h1 : a.toList.map Char.toNat = b.toList.map Char.toNat := by
    have := congrArg (fun z : Str => z.cps.toList) h
    simpa using this
  have inj : ∀ (l m : List Char), l.map Char.toNat = m.map Char.toNat → l = m := by
    intro l
    induction l with
    | nil => intro m h; cases m with
      | nil => rfl
      | cons _ _ => cases h
    | cons c l ih => intro m h; cases m with
      | nil => cases h
      | cons d m =>
        have h2 := (List.cons.inj h).1
        have h3 := (List.cons.inj h).2
        rw [ih m h3]
        have : c = d := by
          have h4 : c.val.toNat = d.val.toNat := h2
          exact Char.ext (UInt32.toNat_inj.mp h4)
        rw [this]
  have := inj _ _ h1
  exact String.ext_iff.mpr this
theorem rfs_lookup {K : PySem.W.Frag} {ρ : List Addr} {U : AP} {H : Hp} {f : String} : ∀ {fs : List (String × GV)} {l : List (Str × V)}, RFs K cid ρ U H fs l → (∀ g, fs.lookup f = some g → ∃ v, l.lookup (Str.ofString f) = some v ∧ RV K cid ρ U H g v) ∧ (fs.lookup f = none → l.lookup (Str.ofString f) = none)
  | [], l, h => by
    cases (show l = [] from h)
    exact ⟨fun g e => (by cases e), fun _ => rfl⟩
  | (n, g) :: fs, l, h => by
    obtain ⟨w, ws, rfl, h1, h2⟩ := (show ∃ w ws, l = (Str.ofString n, w) :: ws ∧ RV K cid ρ U H g w ∧ RFs K cid ρ U H fs ws from h)
    obtain ⟨i1, i2⟩ := rfs_lookup (f := f) h2
    by_cases z : f = n
    · subst z
      refine ⟨fun g' e => ?_, fun e => ?_⟩
      · rw [List.lookup_cons_self] at e; cases e
        exact ⟨w, List.lookup_cons_self, h1⟩
      · rw [List.lookup_cons_self] at e; cases e
    · have z1 : (f == n) = false := beq_eq_false_iff_ne.mpr z
      have z2 : (Str.ofString f == Str.ofString n) = false := beq_eq_false_iff_ne.mpr fun y => z (str_inj y)
      refine ⟨fun g' e => ?_, fun e => ?_⟩
      · rw [List.lookup_cons, z1] at e
        obtain ⟨v, e1, r⟩ := i1 g' e
        exact ⟨v, by rw [List.lookup_cons, z2]; exact e1, r⟩
      · rw [List.lookup_cons, z1] at e
        rw [List.lookup_cons, z2]; exact i2 e
theorem rfs_len {K : PySem.W.Frag} {ρ : List Addr} {U : AP} {H : Hp} : ∀ {fs : List (String × GV)} {l : List (Str × V)}, RFs K cid ρ U H fs l → l.length = fs.length
  | [], l, h => by cases (show l = [] from h); rfl
  | (n, g) :: fs, l, h => by
    obtain ⟨w, ws, rfl, h1, h2⟩ := (show ∃ w ws, l = (Str.ofString n, w) :: ws ∧ RV K cid ρ U H g w ∧ RFs K cid ρ U H fs ws from h)
    rw [List.length_cons, List.length_cons, rfs_len h2]
theorem rfs_put {K : PySem.W.Frag} {ρ : List Addr} {U : AP} {H : Hp} {f : String} {g : GV} {v : V} (r : RV K cid ρ U H g v) : ∀ {fs : List (String × GV)} {l : List (Str × V)}, RFs K cid ρ U H fs l → RFs K cid ρ U H (putF f g fs) (L2.putF (Str.ofString f) v l)
  | [], l, h => by
    cases (show l = [] from h)
    exact ⟨v, [], rfl, r, rfl⟩
  | (n, g') :: fs, l, h => by
    obtain ⟨w, ws, rfl, h1, h2⟩ := (show ∃ w ws, l = (Str.ofString n, w) :: ws ∧ RV K cid ρ U H g' w ∧ RFs K cid ρ U H fs ws from h)
    show RFs K cid ρ U H (if n = f then (f, g) :: fs else (n, g') :: putF f g fs) (L2.putF (Str.ofString f) v ((Str.ofString n, w) :: ws))
    unfold L2.putF
    by_cases z : n = f
    · subst z
      rw [if_pos rfl, if_pos rfl]
      exact ⟨v, ws, rfl, r, h2⟩
    · rw [if_neg z, if_neg (fun y => z (str_inj y))]
      exact ⟨w, _, rfl, h1, rfs_put r h2⟩
/-- an object, as its class says -/
theorem cls_at {K : PySem.W.Frag} {ρ : List Addr} {Rs : AP} {H : Hp} {σr : St} {s : GS} {g : GV} {v : V} {c : Nat} {fs : List (String × GV)} (F : FSim K cid ρ Rs H σr s) (h : RV K cid ρ (UU ρ Rs σr s) H g v) (e : clsOf s.h g = some (c, fs)) :
    ∃ p dx l, v = .ref p ∧ H p = some (.ins (cid c) dx l) ∧ RFs K cid ρ (UU ρ Rs σr s) H fs l := by
  cases g with
  | ref a =>
    obtain ⟨p, rfl, ea⟩ := h
    have e' : (match s.h[a]? with
      | some (.ins c fs) => some (c, fs)
      | _ => none) = some (c, fs) := e
    cases q : s.h[a]? with
    | none => rw [q] at e'; cases e'
    | some o =>
      rw [q] at e'
      cases o with
      | ins c' fs' =>
        cases e'
        obtain ⟨⟨dx, l, h1, h2⟩, _⟩ := F.hp a _ p q (by intro z; cases z) ea
        exact ⟨p, dx, l, rfl, h1, h2⟩
      | _ => cases e'
  | obj c' fs' =>
    cases e
    obtain ⟨p, dx, l, rfl, _, h1, h2⟩ := h
    exact ⟨p, dx, l, rfl, h1, h2⟩
  | _ => cases e
theorem s_att {fa : Nat → Addr} {n : String} (To : TabOk X.prog X.w X.K X.mg X.base cid fa T F k) (ha : SE X cid W T F a ea) (hb : attributeBase ea (Str.ofString n) X.env (eval ea X.env) = eval ea X.env) : SE X cid W T F (.att a n) (.Attribute ea (Str.ofString n) pos) := by
  refine (pe_fld ha hb).imp fun σ H Q ⟨ρ, Rs, s, Fs, G⟩ => ?_
  have G' : Good X.K cid W σ ρ Rs H s ((evE T F a false s).bind fun x s1 => (match x with
    | .g v => attF T v n s1
    | _ => .bad)) (PostE X.K cid σ Rs Q) := G
  refine ⟨ρ, Rs, s, Fs, (Good.bind up_E G').imp fun x s1 ρ1 H1 e1 G1 => ?_⟩
  intro v hx F1 hv
  cases x with
  | slot _ => exact G1.elim
  | new _ => exact G1.elim
  | g g =>
    have F1' : FSim X.K cid ρ1 Rs H1 σ s1 := F1.weak fun _ z => .inl z
    unfold attF at G1
    simp only at G1
    split at G1
    · rename_i c fs ec
      split at G1
      · rename_i d ed
        split at G1
        · rename_i hc
          split at G1
          · rename_i g' eg
            obtain ⟨p, dx, l, rfl, h1, h2⟩ := cls_at F1 hv ec
            obtain ⟨w, h3, h4⟩ := (rfs_lookup h2).1 g' eg
            exact ⟨p, cid c, dx, l, w, rfl, h1, (To.cl c d ed).cls, (To.cl c d ed).noat n hc, h3, G1.val F1' (RV.mv (Mv.less fun q z => z.imp .inl id) h4)⟩
          · exact G1.elim
        · exact G1.elim
      · exact G1.elim
    · exact G1.elim
/-- a function of the text, called by its name -/
theorem s_call {f : Nat} {d : GF} {fa : Addr} {fd : FuncData} {ps : List Str} {es kes : IEs} {ks : List String} {x : Str} {p : Pos} {ees : List Expr} {kws : List Keyword} (tk : Takes X W) (hg : X.A.guards = some []) (hr : Room k X.A)
    (hd : T.fns f = some d) (S : FnS X.K cid d fa fd ps) (Fg : FnG X.prog X.w X.K X.mg X.base k fa fd ps (spOf X.K cid F f d.arity)) (hgl : Gl X x) (hm : X.mg x = some (.ref fa)) (hdb : (x == ("__debug__" : Str)) = false)
    (ha : Ars X cid W T F es ees) (hkw : SK X cid W T F kes kws) (hks : kwNames kws ks = true) : SE X cid W T F (.call f es ks kes) (.Call (.Name x p) ees kws pos) := by
  refine ⟨fun pins s σ H Q I h => ?_⟩
  obtain ⟨ρ, Rs, gs, Fs, G⟩ := h
  have G' : Good X.K cid W σ ρ Rs H gs ((evVs T F es gs).bind fun xs s1 => (evVs T F kes s1).bind fun ys s2 => callF T F f (fzs s2 xs).1 ks (fzs (fzs s2 xs).2 ys).1 (fzs (fzs s2 xs).2 ys).2) (PostE X.K cid σ Rs Q) := G
  refine wpAny_Call_Name_kw (ld_glob I hgl hm ?_ hdb)
  obtain ⟨_, _, _, k4⟩ := kw_ok (pos := pos) (env := X.env) hks
  refine callw (first := []) (Rd := fun vs zs H2 => ∃ ρ2 s4 gs gz, FSim X.K cid ρ2 Rs H2 σ s4 ∧ RVs X.K cid ρ2 (UU ρ2 Rs σ s4) H2 gs vs ∧ RVs X.K cid ρ2 (UU ρ2 Rs σ s4) H2 gz zs ∧ Good X.K cid W σ ρ2 Rs H2 s4 (callF T F f gs ks gz s4) (PostE X.K cid σ Rs Q)) S.kp ha hkw hks I
    (call_vals up_E Fs G' fun ρ2 H2 s4 gs gz vs zs _ F4 r1 r2 G4 => ⟨ρ2, s4, gs, gz, F4, r1, r2, G4⟩) fun us ws s2 vs zs H2 I2 v1 v2 ⟨ρ2, s4, gs, gz, F4, r1, r2, G4⟩ => ?_
  obtain ⟨full, vl, hb, h2, hsp⟩ := callF_sp hd S I2.kIn F4 r1 r2 v1 v2 G4
  exact run_fg tk Fg hg hr I2 hb h2 hsp
/-- a method called -/
theorem s_meth {fa : Nat → Addr} {o : IE} {eo : Expr} {n : String} {es kes : IEs} {ks : List String} {ees : List Expr} {kws : List Keyword} {apos : Pos} {pl : Sem Bool} (tk : Takes X W) (hg : X.A.guards = some []) (hr : Room k X.A)
    (To : TabOk X.prog X.w X.K X.mg X.base cid fa T F k) (ho : SE X cid W T F o eo) (ha : Ars X cid W T F es ees) (hkw : SK X cid W T F kes kws) (hks : kwNames kws ks = true)
    (ht : eval (.Call (.Attribute eo (Str.ofString n) apos) ees kws pos) X.env = (do
      let ov ← eval eo X.env
      standAt apos.atName
      let (f, first) ← holding [ov] (getMethod ov (Str.ofString n) pl)
      callWith pos f first (backTo pos (starEach ees X.env)) (backToKw pos (keywordEach kws X.env)))) :
    SE X cid W T F (.meth o n es ks kes) (.Call (.Attribute eo (Str.ofString n) apos) ees kws pos) := by
  refine ⟨fun pins s σ H Q I h => ?_⟩
  obtain ⟨ρ, Rs, gs, Fs, G⟩ := h
  have G' : Good X.K cid W σ ρ Rs H gs ((evE T F o false gs).bind fun x s0 => (match x with
    | .g v => (match methOf T s0.h v n with
      | some f => (evVs T F es s0).bind fun xs s1 => (evVs T F kes s1).bind fun ys s2 => callF T F f (v :: (fzs s2 xs).1) ks (fzs (fzs s2 xs).2 ys).1 (fzs (fzs s2 xs).2 ys).2
      | none => .bad)
    | _ => .bad)) (PostE X.K cid σ Rs Q) := G
  refine PySem.W.methodCall_KW (pl := pl) (thn (ho.run pins s σ H (fun vx H1 => ∃ ρ1 R1 s1 g, (∀ q, Rs q → R1 q) ∧ FSim X.K cid ρ1 R1 H1 σ s1 ∧ RV X.K cid ρ1 (UU ρ1 R1 σ s1) H1 g vx ∧ Good X.K cid W σ ρ1 Rs H1 s1 (match methOf T s1.h g n with
      | some f => (evVs T F es s1).bind fun xs s2 => (evVs T F kes s2).bind fun ys s3 => callF T F f (g :: (fzs s3 xs).1) ks (fzs (fzs s3 xs).2 ys).1 (fzs (fzs s3 xs).2 ys).2
      | none => .bad) (PostE X.K cid σ Rs Q)) I ⟨ρ, Rs, gs, Fs, ?_⟩) fun u s1 ⟨x, H1, I1, rx, ρ1, R1, gs1, g, hR, F1, hv, G1⟩ => ?_) ht
  · refine (Good.bind up_E G').imp fun x s1 ρ1 H1 e1 G1 => ?_
    intro v hx F1 hv
    cases x with
    | slot _ => exact G1.elim
    | new _ => exact G1.elim
    | g g => exact ⟨ρ1, _, s1, g, fun q z => .inl z, F1, hv, G1⟩
  · split at G1
    · rename_i f em
      unfold methOf at em
      split at em
      · rename_i c fs ec
        split at em
        · rename_i d ed
          split at em
          · rename_i el
            obtain ⟨p, dx, l, rfl, h1, h2⟩ := cls_at F1 hv ec
            obtain rfl : u = Value.ref p := rx
            have C := To.cl c d ed
            have M := C.meth n f em
            refine getmeth_ok I1 h1 C.cls M ((rfs_lookup h2).2 el) ?_
            obtain ⟨df, hf⟩ := To.mf c d n f ed em
            · obtain ⟨fd, ps, S, Fg⟩ := To.fn f df hf
              have F1' : FSim X.K cid ρ1 Rs H1 σ gs1 := F1.weak hR
              refine callw (first := [.ref p]) (Rd := fun vs zs H2 => ∃ ρ2 s4 gs gz, FSim X.K cid ρ2 Rs H2 σ s4 ∧ RVs X.K cid ρ2 (UU ρ2 Rs σ s4) H2 (g :: gs) (.ref p :: vs) ∧ RVs X.K cid ρ2 (UU ρ2 Rs σ s4) H2 gz zs ∧ Good X.K cid W σ ρ2 Rs H2 s4 (callF T F f (g :: gs) ks gz s4) (PostE X.K cid σ Rs Q)) M.kp ha hkw hks I1 ?_ ?_
              · refine call_vals (k := fun gs gz s4 => callF T F f (g :: gs) ks gz s4) up_E F1' G1 fun ρ2 H2 s4 gs gz vs zs e2 F4 r1 r2 G4 => ⟨ρ2, s4, gs, gz, F4, ⟨_, _, rfl, ?_, r1⟩, r2, G4⟩
                exact RV.step hv e2 fun q z => .inl (hR q z)
              · intro us ws s2 vs zs H2 I2 v1 v2 ⟨ρ2, s4, gs, gz, F4, r1, r2, G4⟩
                obtain ⟨full, vl, hb, h2, hsp⟩ := callF_sp hf S I2.kIn F4 r1 r2 (.cons rfl v1) v2 G4
                exact run_fg tk Fg hg hr I2 hb h2 hsp
          · cases em
        · cases em
      · cases em
    · exact G1.elim
/-- the arguments that a call binds -/
theorem args_ok {f : Nat} {d : GF} {fa : Addr} {fd : FuncData} {ps : List Str} {H : Hp} {ρ : List Addr} {U : AP} {gs gz l : List GV} {ks : List String} {vs zs : List V} {us ws : List Value} {sh : Shared} (hd : T.fns f = some d) (S : FnS X.K cid d fa fd ps) (hK : X.K.In sh.heap)
    (r1 : RVs X.K cid ρ U H gs vs) (r2 : RVs X.K cid ρ U H gz zs) (v1 : Vals vs us) (v2 : Vals zs ws) (q : T.args f gs ks gz = some l) :
    ∃ full vl, BindsTo sh fd ⟨us, (ks.map Str.ofString).zip ws⟩ (ps.zip full) ∧ Vals vl full ∧ RVs X.K cid ρ U H l vl ∧ vl.length = d.arity := by
  have q0 : (if gz.length = ks.length then (match d.shapes.lookup (gs.length, ks) with
    | some l => bindG gs gz l
    | none => none) else none) = some l := by
    have := q
    unfold Tab.args at this
    rw [hd] at this
    exact this
  have hl : gz.length = ks.length := by
    by_cases z : gz.length = ks.length
    · exact z
    · rw [if_neg z] at q0; cases q0
  rw [if_pos hl] at q0
  cases qs : d.shapes.lookup (gs.length, ks) with
  | none => rw [qs] at q0; cases q0
  | some src =>
    rw [qs] at q0
    obtain ⟨full, hb, hp⟩ := S.bind _ _ src qs sh us ws hK (by rw [← v1.length, r1.length]) (by rw [← v2.length, ← r2.length]; exact hl)
    obtain ⟨vl, h1, h2⟩ := bind_rv r1 r2 v1 v2 q0 hp
    exact ⟨full, vl, hb, h2, h1, by rw [← S.len _ _ src qs, Paired.length hp]; exact h2.length⟩
theorem Vals.one' {x : Addr} {vs : List V} {us : List Value} (h : Vals vs us) : Vals (V.ref x :: vs) (Value.ref x :: us) := .cons rfl h
theorem make_guards {A : Around} {C : Addr} {us : List Value} {kw : List (Str × Value)} : (A.under (.builtin "type.__call__" ⟨.ref C :: us, kw⟩)).guards = A.guards := by
  first | rfl | (obtain ⟨hd, d, fr, gs, u⟩ := A; cases gs <;> simp [Around.under, Code.guards, Code.isGuard, guardIds, pushGuards])
/-- an instance is made -/
theorem run_mk {C f : Addr} {fd : FuncData} {ps : List Str} {sp : Sp} {pins : List (Addr × Obj)} {σ : St} {H : Hp} {s : Shared} {Q : VK} {us : List Value} {kw : List (Str × Value)} (tk : Takes X W) (M : Mk X.K C f) (Fg : FnG X.prog X.w X.K X.mg X.base k f fd ps sp) (hg : X.A.guards = some []) (hr : Room (k + 1) X.A)
    (I : Inv X pins σ H s)
    (h : ∀ x dx, H x = none → H dx = none → dx ≠ x → ∀ sh : Shared, X.K.In sh.heap → ∃ full vl, BindsTo sh fd ⟨.ref x :: us, kw⟩ (ps.zip full) ∧ Vals vl full ∧ sp vl (upd (upd H dx (.own x)) x (.ins C dx [])) (fun v H2 => v = .non ∧ Q (.ref x) H2) fun c d H' => W c d σ H') :
    wpAny (model X.prog X.w) X.A (call (.ref C) us kw) (EP X pins σ Q) X.xe s := by
  have I2 := Inv.made (C := C) I
  obtain ⟨full, vl, hb, r2, hq⟩ := h (s.heap.objs.size + 1) s.heap.objs.size (I.hok.fresh (Nat.le_succ _)) (I.hok.fresh (Nat.le_refl _)) (Nat.ne_of_lt (Nat.lt_succ_self _)) _ I2.kIn
  refine wpAny_call (make_map (f := f) I.kIn M.makes M.init (beq_iff_eq.mp M.fn) (codeAny_mono (Fg.run _ X.stack _ _ ⟨Value.ref (s.heap.objs.size + 1) :: us, kw⟩ full vl _ _ (make_guards.trans hg) (hr.make C us kw) (I2.env0.make C us kw) hb r2 hq) fun r s' hq' => ?_))
  cases r with
  | error e => exact tk e s' (XE.of_call I2 (fun _ _ _ z => z) hq')
  | ok fl =>
    cases fl with
    | ret u =>
      obtain ⟨v, H', I3, rv, ev, q3⟩ := I2.after hq'
      subst ev
      exact ⟨rv, ⟨V.ref (s.heap.objs.size + 1), H', I3, rfl, q3⟩⟩
    | next => exact False.elim hq'
    | brk => exact False.elim hq'
    | cont => exact False.elim hq'
/-- an instance that is not changed any more -/
theorem FSim.gone {K : PySem.W.Frag} {ρ : List Addr} {Rs : AP} {H : Hp} {σr : St} {s : GS} {a : Nat} {p : Addr} {o : GO} (F : FSim K cid ρ Rs H σr s) (e : s.h[a]? = some o) (n : o ≠ .gone) (ep : ρ[a]? = some p) :
    FSim K cid ρ Rs H σr { s with h := s.h.set a .gone } ∧ (∀ q, MM ρ σr { s with h := s.h.set a .gone } q → MM ρ σr s q) ∧ RV K cid ρ (UU ρ Rs σr { s with h := s.h.set a .gone }) H o.fz (.ref p) := by
  have hi : a < s.h.length := (List.getElem?_eq_some_iff.mp e).1
  have hw : ∀ (b : Nat) (o2 : GO), (s.h.set a .gone)[b]? = some o2 → o2 ≠ .gone → b ≠ a ∧ s.h[b]? = some o2 := fun b o2 e2 n2 => by
    by_cases z : b = a
    · subst z; rw [List.getElem?_set_self hi] at e2; cases e2; exact (n2 rfl).elim
    · rw [List.getElem?_set_ne (Ne.symm z)] at e2; exact ⟨z, e2⟩
  have hM : ∀ q, MM ρ σr { s with h := s.h.set a .gone } q → MM ρ σr s q := fun q z => by
    rcases z with ⟨b, o2, e2, n2, eb⟩ | z
    · exact .inl ⟨b, o2, (hw b o2 e2 n2).2, n2, eb⟩
    · exact .inr z
  have m : Mv ρ ρ (UU ρ Rs σr s) (UU ρ Rs σr { s with h := s.h.set a .gone }) H H := Mv.less fun q z => z.imp id (hM q)
  refine ⟨⟨by show (s.h.set a .gone).length = _; rw [List.length_set]; exact F.len, F.lens, fun b o2 q e2 n2 eb => ?_, fun b c o1 o2 q e1 n1 e2 n2 => F.inj b c o1 o2 q (hw b o1 e1 n1).2 n1 (hw c o2 e2 n2).2 n2, fun i g eg => ?_, fun i o2 e2 => ?_, F.oinj, F.dom⟩, hM, OR.rv ?_ (OR.mv m rfl (F.hp a o p e n ep).1)⟩
  · obtain ⟨r, z⟩ := F.hp b o2 q (hw b o2 e2 n2).2 n2 eb
    exact ⟨OR.mv m rfl r, z⟩
  · obtain ⟨v, e2, r⟩ := F.sl i g eg
    exact ⟨v, e2, RV.mv m r⟩
  · obtain ⟨q, e3, r, z, z2⟩ := F.ow i o2 e2
    exact ⟨q, e3, OR.mv m rfl r, z, fun y => by
      obtain ⟨b, o3, e4, n4, eb⟩ := y
      exact z2 ⟨b, o3, (hw b o3 e4 n4).2, n4, eb⟩⟩
  · intro z
    rcases z with z | ⟨b, o2, e2, n2, eb⟩ | ⟨i, o2, e2, e3⟩
    · exact (F.hp a o p e n ep).2 z
    · obtain ⟨nb, e3⟩ := hw b o2 e2 n2
      exact nb (F.inj b a o2 o p e3 n2 e n eb ep)
    · obtain ⟨q, e4, _, _, z2⟩ := F.ow i o2 e2
      rw [e3] at e4; cases e4
      exact z2 ⟨a, o, e, n, ep⟩
theorem s_make {fa : Nat → Addr} {c : Nat} {es kes : IEs} {ks : List String} {x : Str} {p : Pos} {ees : List Expr} {kws : List Keyword} (tk : Takes X W) (hg : X.A.guards = some []) (hr : Room (k + 1) X.A)
    (To : TabOk X.prog X.w X.K X.mg X.base cid fa T F k) (hc : (T.cls c).isSome = true) (hgl : Gl X x) (hm : X.mg x = some (.ref (cid c))) (hkp : PySem.W.keepIn X.K (.ref (cid c)) = true) (hdb : (x == ("__debug__" : Str)) = false)
    (ha : Ars X cid W T F es ees) (hkw : SK X cid W T F kes kws) (hks : kwNames kws ks = true) : SE X cid W T F (.make c es ks kes) (.Call (.Name x p) ees kws pos) := by
  refine ⟨fun pins s σ H Q I h => ?_⟩
  obtain ⟨ρ, Rs, gs, Fs, G⟩ := h
  have G' : Good X.K cid W σ ρ Rs H gs ((evVs T F es gs).bind fun xs s1 => (evVs T F kes s1).bind fun ys s2 => makeF T F c (fzs s2 xs).1 ks (fzs (fzs s2 xs).2 ys).1 (fzs (fzs s2 xs).2 ys).2) (PostE X.K cid σ Rs Q) := G
  refine wpAny_Call_Name_kw (ld_glob I hgl hm ?_ hdb)
  refine callw (first := []) (Rd := fun vs zs H2 => ∃ ρ2 s4 gs gz, FSim X.K cid ρ2 Rs H2 σ s4 ∧ RVs X.K cid ρ2 (UU ρ2 Rs σ s4) H2 gs vs ∧ RVs X.K cid ρ2 (UU ρ2 Rs σ s4) H2 gz zs ∧ Good X.K cid W σ ρ2 Rs H2 s4 (makeF T F c gs ks gz s4) (PostE X.K cid σ Rs Q)) hkp ha hkw hks I
    (call_vals up_E Fs G' fun ρ2 H2 s4 gs gz vs zs _ F4 r1 r2 G4 => ⟨ρ2, s4, gs, gz, F4, r1, r2, G4⟩) fun us ws s2 vs zs H2 I2 v1 v2 ⟨ρ2, s4, gs, gz, F4, r1, r2, G4⟩ => ?_
  unfold makeF at G4
  cases ed : T.cls c with
  | none => rw [ed] at hc; cases hc
  | some d =>
    rw [ed] at G4
    simp only at G4
    have C := To.cl c d ed
    cases ei : d.init with
    | none => rw [ei] at G4; exact G4.elim
    | some f =>
      rw [ei] at G4
      simp only at G4
      cases ea : T.args f (.ref s4.h.length :: gs) ks gz with
      | none => rw [ea] at G4; exact G4.elim
      | some l =>
        rw [ea] at G4
        simp only at G4
        have M := C.make f ei
        cases hf : T.fns f with
        | none => unfold Tab.args at ea; rw [hf] at ea; cases ea
        | some df =>
          obtain ⟨fd, ps, S, Fg⟩ := To.fn f df hf
          refine run_mk tk M Fg hg hr I2 fun x dx hx hdx ne sh hK => ?_
          obtain ⟨F5, m5, e5⟩ := F4.fresh (u := .own x) hdx
          have F5' : FSim X.K cid ρ2 Rs (upd H2 dx (.own x)) σ s4 := F5.weak fun q z => .inl z
          have hx' : (upd H2 dx (.own x)) x = none := by rw [upd_ne (Ne.symm ne)]; exact hx
          obtain ⟨F6, m6, e6⟩ := F5'.fresh (u := .ins (cid c) dx []) hx'
          obtain ⟨F7, hM7⟩ := F6.lay (o := .ins c []) ⟨dx, [], upd_same, rfl⟩ (fun z => F4.dom x z hx)
          have E7 : Ext ρ2 (ρ2 ++ [x]) (MM ρ2 σ s4) (MM (ρ2 ++ [x]) σ { s4 with h := s4.h ++ [.ins c []] }) H2 (upd (upd H2 dx (.own x)) x (.ins (cid c) dx [])) := by
            refine ⟨⟨[x], rfl⟩, fun q o n h => e6.keep q o n (e5.keep q o n h), fun q h => e6.dom q (e5.dom q h), fun q z => ?_⟩
            exact (hM7 q z).imp id fun z => by rw [z]; exact hx
          have hlen : (ρ2 ++ [x])[s4.h.length]? = some x := by
            rw [F4.len, List.getElem?_append_right (Nat.le_refl _), Nat.sub_self]; rfl
          have r1' : RVs X.K cid (ρ2 ++ [x]) (UU (ρ2 ++ [x]) Rs σ { s4 with h := s4.h ++ [.ins c []] }) (upd (upd H2 dx (.own x)) x (.ins (cid c) dx [])) (.ref s4.h.length :: gs) (.ref x :: vs) :=
            ⟨_, _, rfl, ⟨x, rfl, hlen⟩, RVs.step r1 E7 fun q z => .inl z⟩
          have r2' := RVs.step r2 E7 (R2 := Rs) fun q z => .inl z
          obtain ⟨full, vl, hb, hv, rl, hn⟩ := args_ok hf S hK r1' r2' (Vals.one' v1) v2 ea
          refine ⟨full, vl, hb, hv, call_sp F7 rl hn (fun _ _ _ => rfl) ?_⟩
          cases qf : F f l (s4.h ++ [.ins c []]) with
          | exc c' fs h' =>
            rw [qf] at G4
            intro ρ' H' dd l' e' F8 hd rf
            exact G4 ρ' H' dd l' (E7.trans e') F8 hd rf
          | bad => rw [qf] at G4; exact G4.elim
          | ok g h' =>
            rw [qf] at G4
            intro ρ' H' e' F8 v rv
            cases g with
            | non =>
              refine ⟨rv, ?_⟩
              have hx8 : ρ'[s4.h.length]? = some x := e'.at hlen
              have G5 : Good X.K cid W σ ρ2 Rs H2 s4 (if d.idn then .ok (.g (.ref s4.h.length)) { s4 with h := h' } else (match h'[s4.h.length]? with
                | some (.ins c' fs) => .ok (.g (.obj c' fs)) { s4 with h := h'.set s4.h.length .gone }
                | _ => .bad)) (PostE X.K cid σ Rs Q) := G4
              by_cases hd : d.idn = true
              · rw [if_pos hd] at G5
                exact G5 ρ' H' (E7.trans e') (.ref x) (fun _ z => z.elim) (F8.weak fun q z => z.elim id fun z => z.elim) ⟨x, rfl, hx8⟩
              · rw [if_neg hd] at G5
                cases eh : h'[s4.h.length]? with
                | none => rw [eh] at G5; exact G5.elim
                | some o =>
                  rw [eh] at G5
                  cases o with
                  | ins c' fs' =>
                    obtain ⟨F9, hM9, r9⟩ := F8.gone (a := s4.h.length) (p := x) eh (by intro z; cases z) hx8
                    exact G5 ρ' H' ((E7.trans e').sub hM9) (.ref x) (fun _ z => z.elim) (F9.weak fun q z => z.elim id fun z => z.elim) (RV.mv (Mv.less fun q z => by
                      rcases z with (z | z) | z
                      · exact .inl z
                      · exact z.elim
                      · exact .inr z) r9)
                  | _ => exact G5.elim
            | _ => exact G4.elim
end
end GI
set_option Elab.async false
set_option linter.all false
set_option maxRecDepth 100000
/-! GI.Itr: what is walked; targets. -/
namespace GI
open PySem PySem.Spec PyProof.Rows L2
def noSlot : EV → Prop
  | .slot _ => False
  | _ => True
section
variable {K : PySem.W.Frag} {cid : Nat → Addr} {W : L2.WX} {σr : St} {ρ ρ1 ρ2 : List Addr} {U : AP} {Rs R1 R2 : AP} {H H1 H2 : Hp} {s s1 s2 : GS}
theorem pin_noSlot {x : EV} : noSlot (pin s x).1 := by cases x <;> exact True.intro
theorem FSim.pin {x : EV} {v : V} (F : FSim K cid ρ (Rx Rs x v) H σr s) (h : EVR K cid ρ (UU ρ (Rx Rs x v) σr s) H σr x v) :
    FSim K cid ρ (Rx Rs (pin s x).1 v) H σr (pin s x).2 ∧ EVR K cid ρ (UU ρ (Rx Rs (pin s x).1 v) σr (pin s x).2) H σr (pin s x).1 v ∧ (∀ q, MM ρ σr (pin s x).2 q → MM ρ σr s q) ∧ (∀ q, Xv (pin s x).1 v q → Xv x v q) := by
  cases x with
  | g g => exact ⟨F, h, fun _ z => z, fun _ z => z⟩
  | new o => exact ⟨F, h, fun _ z => z, fun _ z => z⟩
  | slot i =>
    obtain ⟨F2, r, hm, _⟩ := FSim.fz (x := .slot i) F h (fun q z => z.elim)
    refine ⟨F2.weak fun q z => z.elim id fun z => z.elim, RV.mv (Mv.less fun q z => ?_) r, hm, fun q z => z.elim⟩
    rcases z with (z | z) | z
    · exact .inl z
    · exact z.elim
    · exact .inr z
theorem RVs.intsL {ns : List Int} : RVs K cid ρ U H (ns.map .int) (ns.map V.int) := by
  induction ns with
  | nil => rfl
  | cons n r ih => exact ⟨_, _, rfl, rfl, ih⟩
end
/-- what an iterator yields: the items, wherever what is walked stands as it did -/
structure ItOk (K : PySem.W.Frag) (cid : Nat → Addr) (J : It) (vs : List GV) (val : GV) (v : V) : Prop where
  go : ∀ ρ U H i g, VW K cid ρ U H val v → vs[i]? = some g → J.go i H ∧ ∀ x H', J.yld i H x H' → H' = H ∧ RV K cid ρ U H g x
  stop : ∀ ρ U H i, VW K cid ρ U H val v → vs.length ≤ i → J.stop i H
section
variable {K : PySem.W.Frag} {cid : Nat → Addr}
theorem it_list {val : GV} {vs : List GV} {p : Addr} (h : ∀ ρ U H, VW K cid ρ U H val (.ref p) → ∃ l, SqL K H p l ∧ RVs K cid ρ U H vs l) : ItOk K cid (Itl K p) vs val (.ref p) := by
  refine ⟨fun ρ U H i g hv e => ?_, fun ρ U H i hv hi => ?_⟩
  · obtain ⟨l, hl, r⟩ := h ρ U H hv
    obtain ⟨v, e2, rv⟩ := r.at e
    exact ⟨⟨l, v, hl, e2⟩, fun x H' ⟨e3, y⟩ => ⟨e3, by have := y l hl; rw [e2] at this; cases this; exact rv⟩⟩
  · obtain ⟨l, hl, r⟩ := h ρ U H hv
    exact ⟨l, hl, by rw [← r.length]; exact hi⟩
theorem it_tup {val : GV} {vs : List GV} {p : Addr} (h : ∀ ρ U H, VW K cid ρ U H val (.ref p) → ∃ l, SqT K H p l ∧ RVs K cid ρ U H vs l) : ItOk K cid (Itt K p) vs val (.ref p) := by
  refine ⟨fun ρ U H i g hv e => ?_, fun ρ U H i hv hi => ?_⟩
  · obtain ⟨l, hl, r⟩ := h ρ U H hv
    obtain ⟨v, e2, rv⟩ := r.at e
    exact ⟨⟨l, v, hl, e2⟩, fun x H' ⟨e3, y⟩ => ⟨e3, by have := y l hl; rw [e2] at this; cases this; exact rv⟩⟩
  · obtain ⟨l, hl, r⟩ := h ρ U H hv
    exact ⟨l, hl, by rw [← r.length]; exact hi⟩
theorem it_str {z : Str} : ItOk K cid (Its z) (z.cps.toList.map fun c => .str ⟨#[c]⟩) (.str z) (.str z) := by
  refine ⟨fun ρ U H i g hv e => ?_, fun ρ U H i hv hi => ?_⟩
  · rw [List.getElem?_map] at e
    cases q : z.cps.toList[i]? with
    | none => rw [q] at e; cases e
    | some c =>
      rw [q] at e
      cases e
      have q' : z.cps[i]? = some c := by rw [← q]; simp
      refine ⟨by obtain ⟨hh, _⟩ := Array.getElem?_eq_some_iff.mp q'; exact hh, fun x H' ⟨e3, c', e4, e5⟩ => ⟨e3, ?_⟩⟩
      rw [q'] at e4; cases e4
      exact e5
  · show z.cps.size ≤ i
    simpa using hi
theorem it_range {lo : Int} {n : Nat} : ItOk K cid (Itr lo n) ((List.range n).map fun k => .int (lo + (k : Nat))) .non .non := by
  refine ⟨fun ρ U H i g hv e => ?_, fun ρ U H i hv hi => ?_⟩
  · rw [List.getElem?_map] at e
    cases q : (List.range n)[i]? with
    | none => rw [q] at e; cases e
    | some c =>
      rw [q] at e
      cases e
      obtain ⟨hh, e2⟩ := List.getElem?_eq_some_iff.mp q
      rw [List.getElem_range] at e2
      subst e2
      exact ⟨(show i < n by simpa using hh), fun x H' ⟨e3, e4⟩ => ⟨e3, e4⟩⟩
  · show n ≤ i
    simpa using hi
end
section
variable (K : PySem.W.Frag) (cid : Nat → Addr) (W : L2.WX) (T : Tab) (F : CF)
def PostI (Rs : AP) (σ : St) (R : It → Hp → Prop) : Hp → (List GV × EV × GV) → GS → List Addr → Hp → Prop := fun H0 p s' ρ' H' => ∀ v J, (∀ q, Xv p.2.1 v q → H0 q = none) → FSim K cid ρ' (Rx Rs p.2.1 v) H' σ s' → EVR K cid ρ' (UU ρ' (Rx Rs p.2.1 v) σ s') H' σ p.2.1 v →
  noSlot p.2.1 → rd s' p.2.1 = p.2.2 → ItOk K cid J p.1 p.2.2 v → R J H'
def tI (ii : II) : TI := fun σ H R => ∃ ρ Rs s, FSim K cid ρ Rs H σ s ∧ Good K cid W σ ρ Rs H s (evI T F ii s) (PostI K cid Rs σ R)
end
section
variable {X : Cx} {cid : Nat → Addr} {W : L2.WX} {T : Tab} {F : CF} {a b : IE} {ea eb : Expr} {pos : Pos} {tg : Expr}
theorem up_I {K : PySem.W.Frag} {Rs : AP} {σ : St} {R : It → Hp → Prop} : Up (PostI K cid Rs σ R) := fun _ _ _ _ _ _ h p v J hx => p v J fun q z => nn h (hx q z)
theorem si_seq (ha : SE X cid W T F a ea) : PI X tg ea (tI X.K cid W T F (.seq a)) := by
  refine ⟨fun pins s σ H R I h => ?_⟩
  obtain ⟨ρ, Rs, gs, Fs, G⟩ := h
  have G' : Good X.K cid W σ ρ Rs H gs ((evE T F a false gs).bind fun x s1 => lift (items (rd (pin s1 x).2 (pin s1 x).1)) (pin s1 x).2 fun vs => .ok (vs, (pin s1 x).1, rd (pin s1 x).2 (pin s1 x).1)) (PostI X.K cid Rs σ R) := G
  cases ee : evE T F a false gs with
  | bad => rw [ee] at G'; exact G'.elim
  | exc c fs s1 =>
    refine (pi_list ha).run pins s σ H R I ⟨ρ, Rs, gs, Fs, ?_⟩
    rw [ee] at G' ⊢
    exact G'
  | ok x s1 =>
    rw [ee, bind_ok] at G'
    cases ei : items (rd (pin s1 x).2 (pin s1 x).1) with
    | none => rw [ei] at G'; exact G'.elim
    | some vs =>
      rw [ei, lift_some] at G'
      -- once it stands
      have key : ∀ {ρ1 : List Addr} {H1 : Hp} {v : V} (J : It), Ext ρ ρ1 (MM ρ σ gs) (MM ρ1 σ s1) H H1 → (∀ q, Xv x v q → H q = none) → FSim X.K cid ρ1 (Rx Rs x v) H1 σ s1 → EVR X.K cid ρ1 (UU ρ1 (Rx Rs x v) σ s1) H1 σ x v →
          ItOk X.K cid J vs (rd (pin s1 x).2 (pin s1 x).1) v → R J H1 := fun {ρ1 H1 v} J e1 hx F1 hv ok => by
        obtain ⟨F2, h2, hm, hX⟩ := FSim.pin F1 hv
        exact G' ρ1 H1 (e1.sub hm) v J (fun q z => hx q (hX q z)) F2 h2 pin_noSlot rfl ok
      have vw : ∀ {ρ1 : List Addr} {H1 : Hp} {v : V}, FSim X.K cid ρ1 (Rx Rs x v) H1 σ s1 → EVR X.K cid ρ1 (UU ρ1 (Rx Rs x v) σ s1) H1 σ x v → VW X.K cid ρ1 (UU ρ1 (Rx Rs (pin s1 x).1 v) σ (pin s1 x).2) H1 (rd (pin s1 x).2 (pin s1 x).1) v := fun {ρ1 H1 v} F1 hv => by
        obtain ⟨F2, h2, _⟩ := FSim.pin F1 hv
        exact F2.rd h2
      cases er : rd (pin s1 x).2 (pin s1 x).1 with
      | lst xs =>
        rw [er] at ei; cases ei
        refine (pi_list ha).run pins s σ H R I ⟨ρ, Rs, gs, Fs, ?_⟩
        rw [ee]
        intro ρ1 H1 e1 v hx F1 hv
        have hw := vw F1 hv
        rw [er] at hw
        obtain ⟨p, l, rfl, hp, r⟩ := hw
        refine ⟨p, rfl, ⟨l, SqL.of hp⟩, key _ e1 hx F1 hv ?_⟩
        rw [er]
        refine it_list fun ρ U H hv => ?_
        obtain ⟨q, l, e, hq, r⟩ := hv
        cases e
        exact ⟨l, SqL.of hq, r⟩
      | scr ns =>
        rw [er] at ei; cases ei
        refine (pi_list ha).run pins s σ H R I ⟨ρ, Rs, gs, Fs, ?_⟩
        rw [ee]
        intro ρ1 H1 e1 v hx F1 hv
        have hw := vw F1 hv
        rw [er] at hw
        obtain ⟨p, rfl, hp⟩ := hw
        refine ⟨p, rfl, ⟨_, hp.sq⟩, key _ e1 hx F1 hv ?_⟩
        rw [er]
        refine it_list fun ρ U H hv => ?_
        obtain ⟨q, e, hq⟩ := hv
        cases e
        exact ⟨_, hq.sq, RVs.intsL⟩
      | tup xs =>
        rw [er] at ei; cases ei
        refine (pi_tup ha).run pins s σ H R I ⟨ρ, Rs, gs, Fs, ?_⟩
        rw [ee]
        intro ρ1 H1 e1 v hx F1 hv
        have hw := vw F1 hv
        rw [er] at hw
        have tq : ∀ {H : Hp} {U : AP} {p : Addr} {l : List V}, ((¬ U p ∧ H p = some (.tup l)) ∨ KTup X.K p l) → SqT X.K H p l := fun {H U p l} z => by
          rcases z with z | ⟨o, its, n, z⟩
          · exact SqT.of z.2
          · exact .inr ⟨o, its, n, z⟩
        obtain ⟨p, l, rfl, hp, r⟩ := hw
        refine ⟨p, rfl, ⟨l, tq hp⟩, key _ e1 hx F1 hv ?_⟩
        rw [er]
        refine it_tup fun ρ U H hv => ?_
        obtain ⟨q, l, e, hq, r⟩ := hv
        cases e
        exact ⟨l, tq hq, r⟩
      | str z =>
        rw [er] at ei; cases ei
        refine (pi_str ha).run pins s σ H R I ⟨ρ, Rs, gs, Fs, ?_⟩
        rw [ee]
        intro ρ1 H1 e1 v hx F1 hv
        have hw := vw F1 hv
        rw [er] at hw
        cases (show v = .str z from hw)
        refine ⟨z, rfl, key _ e1 hx F1 hv ?_⟩
        rw [er]
        exact it_str
      | _ => rw [er] at ei; cases ei
theorem evrs_ints {K : PySem.W.Frag} {ρ : List Addr} {R : AP} {H : Hp} {σ : St} {s : GS} (Fs : FSim K cid ρ R H σ s) : ∀ {xs : List EV} {vs : List V} {ns : List Int}, EVRs K cid ρ (UU ρ R σ s) H σ xs vs → xs.map (rd s) = ns.map .int → vs = ns.map V.int
  | [], [], [], _, _ => rfl
  | [], [], _ :: _, _, e => by cases e
  | _ :: _, _ :: _, [], _, e => by cases e
  | x :: xs, v :: vs, n :: ns, h, e => by
    have e1 : rd s x = .int n := (List.cons.inj e).1
    have hw := Fs.rd h.1
    rw [e1] at hw
    cases (show v = .int n from hw)
    rw [evrs_ints Fs h.2 (List.cons.inj e).2]; rfl
  | [], _ :: _, _, h, _ => h.elim
  | _ :: _, [], _, h, _ => h.elim
theorem si_range1 (hg : Gl X "range") (hm : X.mg "range" = none) (ha : SL X cid W T F (.cons a .nil) [ea]) (hs : noStar ea = true) {p : Pos} : PI X tg (.Call (.Name "range" p) [ea] [] pos) (tI X.K cid W T F (.rng (.cons a .nil))) := by
  refine ⟨fun pins s σ H R I h => (pi_range1 hg hm ha (star_each hs)).run pins s σ H R I ?_⟩
  obtain ⟨ρ, Rs, gs, Fs, G⟩ := h
  have G' : Good X.K cid W σ ρ Rs H gs ((evVs T F (.cons a .nil) gs).bind fun xs s1 => (match xs.map (rd s1) with
    | [.int j] => if -(2 ^ 62) ≤ j ∧ j < 2 ^ 62 then .ok ((List.range j.toNat).map fun k => .int (k : Nat), .g .non, .non) s1 else .bad
    | [.int i, .int j] => if (-(2 ^ 62) ≤ i ∧ i < 2 ^ 62 ∧ -(2 ^ 62) ≤ j ∧ j < 2 ^ 62) then .ok ((List.range (j - i).toNat).map fun k => .int (i + (k : Nat)), .g .non, .non) s1 else .bad
    | _ => .bad)) (PostI X.K cid Rs σ R) := G
  refine ⟨ρ, Rs, gs, Fs, (Good.bind up_I G').eq.imp fun xs s1 ρ1 H1 e1 ⟨ex, G1⟩ => ?_⟩
  intro vs hx hd F1 hv
  have hl : xs.length = 1 := by
    have ex' : ((evE T F a false gs).bind fun x s1 => GI.R.ok [x] s1) = .ok xs s1 := ex
    cases q : evE T F a false gs with
    | ok x s2 => rw [q] at ex'; cases ex'; rfl
    | exc _ _ _ => rw [q] at ex'; cases ex'
    | bad => rw [q] at ex'; cases ex'
  split at G1
  · rename_i j q
    split at G1
    · rename_i hj
      have e2 := evrs_ints F1 (ns := [j]) hv q
      refine ⟨j, e2, hj.1, hj.2, ?_⟩
      have ok : ItOk X.K cid (Itr 0 j.toNat) ((List.range j.toNat).map fun k => .int (k : Nat)) .non .non := by
        have := it_range (K := X.K) (cid := cid) (lo := 0) (n := j.toNat)
        simpa using this
      exact G1 ρ1 H1 Ext.refl .non _ (fun q z => z.elim) (F1.weak fun q z => z.elim .inl fun z => z.elim) rfl True.intro rfl ok
    · exact G1.elim
  · rename_i i j q
    have := congrArg List.length q
    rw [List.length_map, hl] at this
    cases this
  · exact G1.elim
theorem si_range2 (hg : Gl X "range") (hm : X.mg "range" = none) (ha : SL X cid W T F (.cons a (.cons b .nil)) [ea, eb]) (hs : noStar ea = true) (hs2 : noStar eb = true) {p : Pos} : PI X tg (.Call (.Name "range" p) [ea, eb] [] pos) (tI X.K cid W T F (.rng (.cons a (.cons b .nil)))) := by
  refine ⟨fun pins s σ H R I h => (pi_range2 hg hm ha (by rw [star_each hs, star_each hs2]; rfl) (star_each hs2)).run pins s σ H R I ?_⟩
  obtain ⟨ρ, Rs, gs, Fs, G⟩ := h
  have G' : Good X.K cid W σ ρ Rs H gs ((evVs T F (.cons a (.cons b .nil)) gs).bind fun xs s1 => (match xs.map (rd s1) with
    | [.int j] => if -(2 ^ 62) ≤ j ∧ j < 2 ^ 62 then .ok ((List.range j.toNat).map fun k => .int (k : Nat), .g .non, .non) s1 else .bad
    | [.int i, .int j] => if (-(2 ^ 62) ≤ i ∧ i < 2 ^ 62 ∧ -(2 ^ 62) ≤ j ∧ j < 2 ^ 62) then .ok ((List.range (j - i).toNat).map fun k => .int (i + (k : Nat)), .g .non, .non) s1 else .bad
    | _ => .bad)) (PostI X.K cid Rs σ R) := G
  refine ⟨ρ, Rs, gs, Fs, (Good.bind up_I G').eq.imp fun xs s1 ρ1 H1 e1 ⟨ex, G1⟩ => ?_⟩
  intro vs hx hd F1 hv
  have hl : xs.length = 2 := by
    have ex' : ((evE T F a false gs).bind fun x s1 => ((evE T F b false s1).bind fun y s2 => GI.R.ok [y] s2).bind fun ys s2 => GI.R.ok (x :: ys) s2) = .ok xs s1 := ex
    cases q : evE T F a false gs with
    | ok x s2 =>
      rw [q, bind_ok] at ex'
      cases q2 : evE T F b false s2 with
      | ok y s3 => rw [q2] at ex'; cases ex'; rfl
      | exc _ _ _ => rw [q2] at ex'; cases ex'
      | bad => rw [q2] at ex'; cases ex'
    | exc _ _ _ => rw [q] at ex'; cases ex'
    | bad => rw [q] at ex'; cases ex'
  split at G1
  · rename_i j q
    have := congrArg List.length q
    rw [List.length_map, hl] at this
    cases this
  · rename_i i j q
    split at G1
    · rename_i hj
      have e2 := evrs_ints F1 (ns := [i, j]) hv q
      refine ⟨i, j, e2, hj, ?_⟩
      exact G1 ρ1 H1 Ext.refl .non _ (fun q z => z.elim) (F1.weak fun q z => z.elim .inl fun z => z.elim) rfl True.intro rfl it_range
    · exact G1.elim
  · exact G1.elim
end
/-! ### targets -/
def SetAt (is : List Nat) (σ σ' : St) : Prop := σ'.length = σ.length ∧ ∀ j, j ∉ is → σ'[j]? = σ[j]?
def IT.ix : IT → List Nat
  | .nm i => [i]
  | .tp is => is
theorem SetAt.one {σ : St} {i : Nat} {v : Option V} : SetAt [i] σ (σ.set i v) := ⟨by simp, fun j hj => by rw [List.getElem?_set_ne (fun e => hj (by simp [e]))]⟩
section
variable (K : PySem.W.Frag) (cid : Nat → Addr)
def gG (it : IT) : TG := fun v σ H Q => ∃ ρ Rs s g s', FSim K cid ρ Rs H σ s ∧ RV K cid ρ (UU ρ Rs σ s) H g v ∧ tgt it g s = .ok () s' ∧ ∀ σ', SetAt it.ix σ σ' → FSim K cid ρ Rs H σ' s' → (∀ q, MM ρ σ' s' q → MM ρ σ s q) → Q σ' H
def gGs (is : List Nat) : TGs := fun vs σ H Q => ∃ ρ Rs s gs, FSim K cid ρ Rs H σ s ∧ RVs K cid ρ (UU ρ Rs σ s) H gs vs ∧ gs.length = is.length ∧ ∀ σ', SetAt is σ σ' → FSim K cid ρ Rs H σ' { s with σ := sets s.σ is gs } → (∀ q, MM ρ σ' { s with σ := sets s.σ is gs } q → MM ρ σ s q) → Q σ' H
end
theorem _root_.L2.PG.imp {X : Cx} {e : Expr} {t t' : TG} (h : PG X e t) (f : ∀ v σ H Q, t' v σ H Q → t v σ H Q) : PG X e t' := ⟨fun pins s σ H v u Q I r q => h.run pins s σ H v u Q I r (f v σ H Q q)⟩
theorem _root_.L2.PGs.imp {X : Cx} {e : List Expr} {t t' : TGs} (h : PGs X e t) (f : ∀ v σ H Q, t' v σ H Q → t v σ H Q) : PGs X e t' := ⟨fun pins s σ H v u Q I r q => h.run pins s σ H v u Q I r (f v σ H Q q)⟩
theorem _root_.L2.PG.or {X : Cx} {e : Expr} {t t' : TG} (h : PG X e t) (h' : PG X e t') : PG X e fun v σ H Q => t v σ H Q ∨ t' v σ H Q := ⟨fun pins s σ H v u Q I r q => q.elim (h.run pins s σ H v u Q I r) (h'.run pins s σ H v u Q I r)⟩
/-- names and their places -/
inductive SNm (X : Cx) : List Nat → List Expr → Prop where
  | nil : SNm X [] []
  | cons {i : Nat} {x : Str} {pos : Pos} {is : List Nat} {es : List Expr} (hi : X.N[i]? = some x) (hx : Loc X.env.scope x) (hf : X.fn x = true ∨ X.env.scope.names.lookup x = some .local) (r : SNm X is es) : SNm X (i :: is) (.Name x pos :: es)
section
variable {X : Cx} {cid : Nat → Addr} {pos : Pos}
theorem sg_nm {i : Nat} {x : Str} (hN : X.N.Nodup) (hi : X.N[i]? = some x) (hx : Loc X.env.scope x) (hf : X.fn x = true ∨ X.env.scope.names.lookup x = some .local) : PG X (.Name x pos) (gG X.K cid (.nm i)) := by
  refine (pg_name hN hi hx hf).imp fun v σ H Q ⟨ρ, Rs, s, g, s', Fs, r, e, h⟩ => ?_
  cases e
  obtain ⟨F2, hm⟩ := Fs.setv (i := i) r
  exact h _ SetAt.one F2 hm
theorem sg_nms (hN : X.N.Nodup) : ∀ {is : List Nat} {es : List Expr}, SNm X is es → PGs X es (gGs X.K cid is)
  | _, _, .nil => pgs_nil.imp fun v σ H Q ⟨ρ, Rs, s, gs, Fs, r, hl, h⟩ => by
    cases gs with
    | cons _ _ => cases hl
    | nil =>
      cases (show v = [] from r)
      exact ⟨rfl, h σ ⟨rfl, fun _ _ => rfl⟩ Fs fun _ z => z⟩
  | _, _, .cons (i := i) (is := is) hi hx hf rr => by
    refine (pgs_cons (pg_name hN hi hx hf) (sg_nms hN rr)).imp fun v σ H Q ⟨ρ, Rs, s, gs, Fs, r, hl, h⟩ => ?_
    cases gs with
    | nil => cases hl
    | cons g gs =>
      obtain ⟨w, ws, rfl, r1, r2⟩ := (show ∃ w ws, v = w :: ws ∧ RV X.K cid ρ (UU ρ Rs σ s) H g w ∧ RVs X.K cid ρ (UU ρ Rs σ s) H gs ws from r)
      obtain ⟨F2, hm⟩ := Fs.setv (i := i) r1
      refine ⟨w, ws, rfl, ρ, Rs, _, gs, F2, RVs.mv (Mv.less fun q z => z.imp id (hm q)) r2, Nat.succ.inj hl, fun σ' hs F3 hm3 => ?_⟩
      refine h σ' ⟨hs.1.trans (by simp), fun j hj => ?_⟩ F3 fun q z => hm q (hm3 q z)
      rw [List.mem_cons, not_or] at hj
      rw [hs.2 j hj.2, List.getElem?_set_ne (fun e => hj.1 e.symm)]
theorem sg_tp {is : List Nat} {es : List Expr} {k : Nat} (hc : X.calm = true) (hN : X.N.Nodup) (h : SNm X is es) : PG X (.Tuple es k pos) (gG X.K cid (.tp is)) := by
  have hE : ∀ {is : List Nat} {es : List Expr}, SNm X is es → (assignEach es X.env).length = is.length ∧ (assignEach es X.env).findIdx? (·.1) = none := by
    intro is es h
    induction h with
    | nil => exact ⟨rfl, rfl⟩
    | @cons i x pos is es hi hx hf rr ih =>
      refine ⟨?_, ?_⟩
      · show (assignEach es X.env).length + 1 = _
        rw [ih.1]; rfl
      · show List.findIdx? (·.1) ((false, _) :: assignEach es X.env) = none
        rw [List.findIdx?_cons]
        simp only [Bool.false_eq_true, if_false]
        rw [ih.2]; rfl
  obtain ⟨h1, h2⟩ := hE h
  refine ((pg_tup hc (sg_nms (cid := cid) hN h) h1 h2).or (pg_lst hc (sg_nms (cid := cid) hN h) h1 h2)).imp fun v σ H Q ⟨ρ, Rs, s, g, s', Fs, r, e, hq⟩ => ?_
  have e' : (match unpk (rdv s.h g) is.length with
    | some vs => R.ok () { s with σ := sets s.σ is vs }
    | none => .bad) = .ok () s' := e
  have hw := Fs.rdv r
  cases er : rdv s.h g with
  | tup xs =>
    rw [er] at e' hw
    have e2 : (match (if xs.length = is.length then some xs else none) with
      | some vs => R.ok () { s with σ := sets s.σ is vs }
      | none => .bad) = .ok () s' := e'
    split at e2
    · rename_i gs q
      split at q
      · rename_i hl
        cases q
        cases e2
        obtain ⟨p, l, rfl, hp, rr⟩ := hw
        refine .inl ⟨p, l, rfl, ?_, rr.length.symm.trans hl, ρ, Rs, s, xs, Fs, rr, hl, hq⟩
        rcases hp with z | ⟨o, its, n, z⟩
        · exact SqT.of z.2
        · exact .inr ⟨o, its, n, z⟩
      · cases q
    · cases e2
  | lst xs =>
    rw [er] at e' hw
    have e2 : (match (if xs.length = is.length then some xs else none) with
      | some vs => R.ok () { s with σ := sets s.σ is vs }
      | none => .bad) = .ok () s' := e'
    split at e2
    · rename_i gs q
      split at q
      · rename_i hl
        cases q
        cases e2
        obtain ⟨p, l, rfl, hp, rr⟩ := hw
        exact .inr ⟨p, l, rfl, SqL.of hp, rr.length.symm.trans hl, ρ, Rs, s, xs, Fs, rr, hl, hq⟩
      · cases q
    · cases e2
  | _ => rw [er] at e'; cases e'
end
end GI
set_option Elab.async false
set_option linter.all false
set_option maxRecDepth 100000
/-! GI.Lcm: list comprehensions. -/
namespace GI
open PySem PySem.Spec PyProof.Rows L2
abbrev W0 : L2.WX := fun _ _ _ _ => False
section
variable {K : PySem.W.Frag} {cid : Nat → Addr} {W : L2.WX} {σ σr : St} {ρ ρ0 ρ1 ρ2 : List Addr} {Rs R1 R2 : AP} {H H0 H1 H2 : Hp} {s s0 s1 s2 : GS}
/-! ### slots forgotten, slots back -/
theorem wipeG_len {σ : List Sl} : ∀ {vs : List Nat}, (wipeG σ vs).length = σ.length
  | [] => rfl
  | v :: vs => by show ((wipeG σ vs).set v .no).length = _; rw [List.length_set, wipeG_len]
theorem wipeG_in {σ : List Sl} {i : Nat} : ∀ {vs : List Nat}, i ∈ vs → ∀ x, (wipeG σ vs)[i]? = some x → x = .no
  | v :: vs, h, x, e => by
    have e' : ((wipeG σ vs).set v .no)[i]? = some x := e
    by_cases z : v = i
    · subst z
      by_cases y : v < (wipeG σ vs).length
      · rw [List.getElem?_set_self y] at e'; cases e'; rfl
      · rw [List.getElem?_eq_none (by simpa using y)] at e'; cases e'
    · rw [List.getElem?_set_ne z] at e'
      exact wipeG_in ((List.mem_cons.mp h).resolve_left fun y => z y.symm) x e'
theorem wipeG_out {σ : List Sl} {i : Nat} : ∀ {vs : List Nat}, i ∉ vs → (wipeG σ vs)[i]? = σ[i]?
  | [], _ => rfl
  | v :: vs, h => by
    rw [List.mem_cons, not_or] at h
    show ((wipeG σ vs).set v .no)[i]? = _
    rw [List.getElem?_set_ne (fun z => h.1 z.symm), wipeG_out h.2]
theorem backG_len {σ σ' : List Sl} : ∀ {vs : List Nat}, (backG σ σ' vs).length = σ'.length
  | [] => rfl
  | v :: vs => by show ((backG σ σ' vs).set v (Sl.kept σ[v]?)).length = _; rw [List.length_set, backG_len]
theorem backG_in {σ σ' : List Sl} {i : Nat} : ∀ {vs : List Nat}, i ∈ vs → ∀ x, (backG σ σ' vs)[i]? = some x → x = Sl.kept σ[i]?
  | v :: vs, h, x, e => by
    have e' : ((backG σ σ' vs).set v (Sl.kept σ[v]?))[i]? = some x := e
    by_cases z : v = i
    · subst z
      by_cases y : v < (backG σ σ' vs).length
      · rw [List.getElem?_set_self y] at e'; cases e'; rfl
      · rw [List.getElem?_eq_none (by simpa using y)] at e'; cases e'
    · rw [List.getElem?_set_ne z] at e'
      exact backG_in ((List.mem_cons.mp h).resolve_left fun y => z y.symm) x e'
theorem backG_out {σ σ' : List Sl} {i : Nat} : ∀ {vs : List Nat}, i ∉ vs → (backG σ σ' vs)[i]? = σ'[i]?
  | [], _ => rfl
  | v :: vs, h => by
    rw [List.mem_cons, not_or] at h
    show ((backG σ σ' vs).set v (Sl.kept σ[v]?))[i]? = _
    rw [List.getElem?_set_ne (fun z => h.1 z.symm), backG_out h.2]
theorem kept_val {x : Option Sl} {g : GV} (h : Sl.kept x = .val g) : x = some (.val g) := by
  cases x with
  | none => cases h
  | some y => cases y <;> first | cases h; rfl | cases h
theorem kept_own {x : Option Sl} {o : GO} (h : Sl.kept x = .own o) : False := by
  cases x with
  | none => cases h
  | some y => cases y <;> cases h
theorem wipe_in {σ : St} {i : Nat} {x : V} {vs : List Nat} (h : i ∈ vs) : (wipe σ vs)[i]? ≠ some (some x) := fun e => (wipe_some e).2 h
theorem FSim.wipe {own : List Nat} (F : FSim K cid ρ Rs H σr s) : FSim K cid ρ Rs H (L2.wipe σr own) { s with σ := wipeG s.σ own } ∧ ∀ q, MM ρ (L2.wipe σr own) { s with σ := wipeG s.σ own } q → MM ρ σr s q := by
  have ow : ∀ (j : Nat) (x : Sl), (wipeG s.σ own)[j]? = some x → x ≠ .no → j ∉ own ∧ s.σ[j]? = some x := fun j x e n => by
    by_cases z : j ∈ own
    · exact (n (wipeG_in z x e)).elim
    · rw [wipeG_out z] at e; exact ⟨z, e⟩
  have hM : ∀ q, MM ρ (L2.wipe σr own) { s with σ := wipeG s.σ own } q → MM ρ σr s q := fun q z => by
    rcases z with z | ⟨j, o, e, r⟩
    · exact .inl z
    · obtain ⟨n, e'⟩ := ow j _ e (by intro z; cases z)
      exact .inr ⟨j, o, e', by rw [wipe_out n] at r; exact r⟩
  have m : Mv ρ ρ (UU ρ Rs σr s) (UU ρ Rs (L2.wipe σr own) { s with σ := wipeG s.σ own }) H H := Mv.less fun q z => z.imp id (hM q)
  refine ⟨⟨F.len, by show (wipeG s.σ own).length = _; rw [wipeG_len, wipe_length]; exact F.lens, fun a o p e n ea => ?_, F.inj, fun i g e => ?_, fun i o e => ?_, fun i j o o' p e e' r r' => ?_, F.dom⟩, hM⟩
  · obtain ⟨r, q⟩ := F.hp a o p e n ea
    exact ⟨OR.mv m rfl r, q⟩
  · obtain ⟨n, e'⟩ := ow i _ e (by intro z; cases z)
    obtain ⟨v, e2, r⟩ := F.sl i g e'
    exact ⟨v, by rw [wipe_out n]; exact e2, RV.mv m r⟩
  · obtain ⟨n, e'⟩ := ow i _ e (by intro z; cases z)
    obtain ⟨p, e2, r, q, q2⟩ := F.ow i o e'
    exact ⟨p, by rw [wipe_out n]; exact e2, OR.mv m rfl r, q, q2⟩
  · obtain ⟨n, e1⟩ := ow i _ e (by intro z; cases z)
    obtain ⟨n', e1'⟩ := ow j _ e' (by intro z; cases z)
    rw [wipe_out n] at r
    rw [wipe_out n'] at r'
    exact F.oinj i j o o' p e1 e1' r r'
/-- behind a block: its own names are as they were -/
theorem FSim.back {own : List Nat} {D : Addr} (F1 : FSim K cid ρ1 R1 H1 σ s1) (F2 : FSim K cid ρ2 (fun q => R1 q ∨ q = D) H2 (L2.wipe σ own) s2) (hD : H1 D = none)
    (e : Ext ρ1 ρ2 (MM ρ1 σ s1) (MM ρ2 (L2.wipe σ own) s2) H1 H2) : FSim K cid ρ2 (fun q => R1 q ∨ q = D) H2 σ { s2 with σ := backG s1.σ s2.σ own } ∧ (∀ q, MM ρ2 σ { s2 with σ := backG s1.σ s2.σ own } q → MM ρ2 (L2.wipe σ own) s2 q) := by
  have ow : ∀ (j : Nat) (o : GO), (backG s1.σ s2.σ own)[j]? = some (.own o) → j ∉ own ∧ s2.σ[j]? = some (.own o) := fun j o e => by
    by_cases z : j ∈ own
    · exact (kept_own (backG_in z _ e).symm).elim
    · rw [backG_out z] at e; exact ⟨z, e⟩
  have hM : ∀ q, MM ρ2 σ { s2 with σ := backG s1.σ s2.σ own } q → MM ρ2 (L2.wipe σ own) s2 q := fun q z => by
    rcases z with z | ⟨j, o, e, r⟩
    · exact .inl z
    · obtain ⟨n, e'⟩ := ow j o e
      exact .inr ⟨j, o, e', by rw [wipe_out n]; exact r⟩
  have m : Mv ρ2 ρ2 (UU ρ2 (fun q => R1 q ∨ q = D) (L2.wipe σ own) s2) (UU ρ2 (fun q => R1 q ∨ q = D) σ { s2 with σ := backG s1.σ s2.σ own }) H2 H2 := Mv.less fun q z => z.imp id (hM q)
  have m1 : Mv ρ1 ρ2 (UU ρ1 R1 σ s1) (UU ρ2 (fun q => R1 q ∨ q = D) σ { s2 with σ := backG s1.σ s2.σ own }) H1 H2 := ⟨fun a p h => e.at h, fun p o n h => e.keep p o (fun z => n (.inr z)) h, fun p o n h z => by
    rcases z with (z | z) | z
    · exact n (.inl z)
    · rw [z, hD] at h; cases h
    · rcases e.mb p (hM p z) with y | y
      · exact n (.inr y)
      · rw [h] at y; cases y⟩
  have hl : s2.σ.length = σ.length := by rw [F2.lens, wipe_length]
  refine ⟨⟨F2.len, by show (backG s1.σ s2.σ own).length = _; rw [backG_len]; exact hl, fun a o p e n ea => ?_, F2.inj, fun i g e' => ?_, fun i o e' => ?_, fun i j o o' p e e' r r' => ?_, F2.dom⟩, hM⟩
  · obtain ⟨r, q⟩ := F2.hp a o p e n ea
    exact ⟨OR.mv m rfl r, q⟩
  · by_cases z : i ∈ own
    · obtain ⟨v, e2, r⟩ := F1.sl i g (kept_val (backG_in z _ e').symm)
      exact ⟨v, e2, RV.mv m1 r⟩
    · have e2 : (backG s1.σ s2.σ own)[i]? = some (.val g) := e'
      rw [backG_out z] at e2
      obtain ⟨v, e3, r⟩ := F2.sl i g e2
      exact ⟨v, by rw [wipe_out z] at e3; exact e3, RV.mv m r⟩
  · obtain ⟨n, e2⟩ := ow i o e'
    obtain ⟨p, e3, r, q, q2⟩ := F2.ow i o e2
    exact ⟨p, by rw [wipe_out n] at e3; exact e3, OR.mv m rfl r, q, q2⟩
  · obtain ⟨n, e1⟩ := ow i _ e
    obtain ⟨n', e1'⟩ := ow j _ e'
    rw [← wipe_out n] at r
    rw [← wipe_out n'] at r'
    exact F2.oinj i j o o' p e1 e1' r r'
/-- what is reserved is written -/
theorem FSim.wr {D : Addr} {u : HO} (F : FSim K cid ρ Rs H σr s) (hD : Rs D) : FSim K cid ρ Rs (upd H D u) σr s ∧ Mv ρ ρ (UU ρ Rs σr s) (UU ρ Rs σr s) H (upd H D u) := by
  have m : Mv ρ ρ (UU ρ Rs σr s) (UU ρ Rs σr s) H (upd H D u) := ⟨fun _ _ h => h, fun p o n h => by rw [upd_ne (fun z => n (by rw [z]; exact .inl hD))]; exact h, fun _ _ n _ => n⟩
  have ne : ∀ p, MM ρ σr s p → p ≠ D := fun p z y => F.apart z (by rw [y]; exact hD)
  refine ⟨⟨F.len, F.lens, fun a o p e n ea => ?_, F.inj, fun i g e => ?_, fun i o e => ?_, F.oinj, fun p z => ?_⟩, m⟩
  · obtain ⟨r, q⟩ := F.hp a o p e n ea
    exact ⟨OR.mv m (upd_ne (ne p (.inl ⟨a, o, e, n, ea⟩))) r, q⟩
  · obtain ⟨v, e2, r⟩ := F.sl i g e
    exact ⟨v, e2, RV.mv m r⟩
  · obtain ⟨p, e2, r, q, q2⟩ := F.ow i o e
    exact ⟨p, e2, OR.mv m (upd_ne (ne p (.inr ⟨i, o, e, e2⟩))) r, q, q2⟩
  · by_cases y : p = D
    · rw [y, upd_same]; simp
    · rw [upd_ne y]; exact F.dom p z
theorem mk_at {hp : Bool} {o : GO} {p : Addr} {Q : VK} (G : Good K cid W σ ρ0 R1 H0 s0 (mk hp o s) (PostE K cid σ Rs Q)) (e0 : Ext ρ0 ρ (MM ρ0 σ s0) (MM ρ σ s) H0 H)
    (Fs : FSim K cid ρ (fun q => Rs q ∨ q = p) H σ s) (hn : ¬ Rs p) (h0 : H0 p = none) (r : OR K cid ρ (UU ρ (fun q => Rs q ∨ q = p) σ s) H p o) : Q (.ref p) H := by
  cases hp with
  | false => exact G ρ H e0 (.ref p) (fun q z => by rw [show q = p from z]; exact h0) Fs ⟨p, rfl, r⟩
  | true =>
    obtain ⟨F2, hM⟩ := Fs.lay r hn
    refine G (ρ ++ [p]) H ⟨?_, e0.keep, e0.dom, fun q z => ?_⟩ (.ref p) (fun _ z => z.elim) (F2.weak fun q z => z.elim id fun z => z.elim) ⟨p, rfl, ?_⟩
    · obtain ⟨m, e⟩ := e0.pre
      exact ⟨m ++ [p], by rw [e, List.append_assoc]⟩
    · rcases hM q z with z | z
      · exact e0.mb q z
      · rw [z]; exact .inr h0
    · rw [Fs.len, List.getElem?_append_right (Nat.le_refl _), Nat.sub_self]; rfl
theorem wipe_set {own is : List Nat} {σ' : St} (h : SetAt is (L2.wipe σ own) σ') (hs : ∀ i ∈ is, i ∈ own) : L2.wipe σ' own = L2.wipe σ own := by
  have hl : σ'.length = σ.length := by rw [h.1, wipe_length]
  have win : ∀ {τ : St} {i : Nat} {vs : List Nat}, i ∈ vs → (L2.wipe τ vs)[i]? = if i < τ.length then some none else none := by
    intro τ i vs
    induction vs with
    | nil => intro z; cases z
    | cons v vs ih =>
      intro z
      show ((L2.wipe τ vs).set v none)[i]? = _
      by_cases y : v = i
      · subst y
        by_cases x : v < τ.length
        · rw [List.getElem?_set_self (by rw [wipe_length]; exact x), if_pos x]
        · rw [List.getElem?_eq_none (by simp [wipe_length]; omega), if_neg x]
      · rw [List.getElem?_set_ne y]
        exact ih ((List.mem_cons.mp z).resolve_left fun e => y e.symm)
  apply List.ext_getElem?
  intro i
  by_cases z : i ∈ own
  · rw [win z, win z, hl]
  · rw [wipe_out z, wipe_out z, h.2 i (fun y => z (hs i y)), wipe_out z]
end
section
variable {X : Cx} {cid : Nat → Addr} {W : L2.WX} {T : Tab} {F : CF} {pos : Pos}
theorem good_any {α : Type} {K : PySem.W.Frag} {W : L2.WX} {σr : St} {ρ : List Addr} {Rs : AP} {H : Hp} {s : GS} {r : R α} {a : α} {s' : GS} {P : Hp → α → GS → List Addr → Hp → Prop} (e : r = .ok a s') (h : ∀ ρ' H', Ext ρ ρ' (MM ρ σr s) (MM ρ' σr s') H H' → P H a s' ρ' H') : Good K cid W σr ρ Rs H s r P := by
  rw [e]; exact h
theorem EVR.nosl {K : PySem.W.Frag} {ρ : List Addr} {U : AP} {H : Hp} {σ σ' : St} {x : EV} {v : V} (n : noSlot x) (h : EVR K cid ρ U H σ x v) : EVR K cid ρ U H σ' x v := by
  cases x with
  | g _ => exact h
  | new _ => exact h
  | slot _ => exact n.elim
open Classical in
theorem lc_run {hp : Bool} {elt : IE} {tg : IT} {it : II} {c : IEo} {own : List Nat} {σ : St} {H : Hp} {Q : VK} (hix : ∀ i ∈ tg.ix, i ∈ own) (h : tE X.K cid W T F (.lc hp elt tg it c own) σ H Q) :
    tLc (tI X.K cid W T F it) (gG X.K cid tg) (tCo X.K cid W0 T F c) (tE X.K cid W0 T F elt) own σ H Q := by
  obtain ⟨ρ, Rs, s, Fs, G⟩ := h
  let step : GV → GS → GI.R (Option GV) := fun v s2 => ((tgt tg v s2).bind fun _ s3 => (evC T F c s3).bind fun t s4 =>
      if t then (evE T F elt false s4).bind fun x s5 => .ok (some (fz s5 x).1) (fz s5 x).2 else .ok none s4).bind fun o s6 => .ok o { s6 with σ := wipeG s6.σ own }
  have G' : Good X.K cid W σ ρ Rs H s ((evI T F it s).bind fun p s1 => ((lcL (same p.2.1 p.2.2) step p.1 [] { s1 with σ := wipeG s1.σ own }).nox).bind fun vs s2 => mk hp (.lst vs) { s2 with σ := backG s1.σ s2.σ own }) (PostE X.K cid σ Rs Q) := G
  refine ⟨ρ, Rs, s, Fs, (Good.bind up_E G').imp fun p s1 ρ1 H1 e1 G1 => ?_⟩
  intro v J hx F1 hv hns hrd ok D hD
  obtain ⟨vs, x, val⟩ := p
  simp only at hx F1 hv hns hrd ok G1
  -- the whole run
  cases eT : lcL (same x val) step vs [] { s1 with σ := wipeG s1.σ own } with
  | exc _ _ _ => rw [eT] at G1; exact G1.elim
  | bad => rw [eT] at G1; exact G1.elim
  | ok vF sF =>
    rw [eT] at G1
    have G2 : Good X.K cid W σ ρ1 Rs H1 s1 (mk hp (.lst vF) { sF with σ := backG s1.σ sF.σ own }) (PostE X.K cid σ Rs Q) := G1
    have hDn : ¬ Rx Rs x v D := fun z => F1.dom D z hD
    let Rd : AP := fun q => Rx Rs x v q ∨ q = D
    -- the word that holds at each turn
    let In : Nat → Hp → Prop := fun i H => ∃ ρ2 s2 acc vacc, FSim X.K cid ρ2 Rd H (L2.wipe σ own) s2 ∧ H D = some (.lst vacc) ∧ RVs X.K cid ρ2 (UU ρ2 Rd (L2.wipe σ own) s2) H acc vacc ∧ EVR X.K cid ρ2 (UU ρ2 Rd (L2.wipe σ own) s2) H σ x v ∧
      Ext ρ1 ρ2 (MM ρ1 σ s1) (MM ρ2 (L2.wipe σ own) s2) H1 H ∧ lcL (same x val) step (vs.drop i) acc s2 = .ok vF sF
    refine ⟨fun i m H => m = vs.length - i ∧ i ≤ vs.length ∧ In i H, ⟨vs.length, by simp, Nat.zero_le _, ?_⟩, ?_⟩
    · obtain ⟨F2, m2, e2⟩ := F1.fresh (u := .lst []) hD
      obtain ⟨F3, hm3⟩ := F2.wipe (own := own)
      refine ⟨ρ1, _, [], [], F3, upd_same, rfl, EVR.mv (Mv.less fun q z => z.imp id (hm3 q)) (fun _ _ => rfl) (EVR.mv m2 (fun q z => ?_) hv), e2.sub hm3, eT⟩
      · rw [upd_ne]
        intro y
        exact hDn (.inr (by rw [← y]; exact z))
    · rintro i m H2 ⟨rfl, hi, ρ2, s2, acc, vacc, F2, hDv, ra, hv2, e2, eq⟩
      by_cases hlt : i < vs.length
      · -- a turn
        have hd : vs.drop i = vs[i] :: vs.drop (i + 1) := List.drop_eq_getElem_cons hlt
        rw [hd] at eq
        have eq0 : (if same x val s2 ∧ acc.length < sizeLine then (step vs[i] s2).bind fun o s1 => (match o with
          | some v => lcL (same x val) step (vs.drop (i + 1)) (acc ++ [v]) s1
          | none => lcL (same x val) step (vs.drop (i + 1)) acc s1) else GI.R.bad) = .ok vF sF := eq
        split at eq0
        · rename_i hsm
          have hvw := F2.rd (EVR.nosl (σ' := L2.wipe σ own) hns hv2)
          rw [show rd s2 x = val from hsm.1] at hvw
          obtain ⟨hgo, hy⟩ := ok.go ρ2 _ H2 i vs[i] hvw (List.getElem?_eq_getElem hlt)
          refine .inr ⟨hgo, In (i + 1), fun H' p' => ⟨vs.length - (i + 1), by omega, rfl, hlt, p'⟩, fun xv H' y => ?_⟩
          obtain ⟨rfl, rv⟩ := hy xv H' y
          -- the target
          cases et : tgt tg vs[i] s2 with
          | exc _ _ _ => simp only [step, et, bind_exc] at eq0; cases eq0
          | bad => simp only [step, et, bind_bad] at eq0; cases eq0
          | ok u s3 =>
            simp only [step, et, bind_ok] at eq0
            refine ⟨ρ2, Rd, s2, vs[i], s3, F2, rv, et, fun σ' hset F3 hm3 => ⟨wipe_set hset hix, ?_⟩⟩
            have hwp : L2.wipe σ' own = L2.wipe σ own := wipe_set hset hix
            refine ⟨ρ2, Rd, s3, F3, ?_⟩
            cases ec : evC T F c s3 with
            | exc _ _ _ => rw [ec] at eq0; cases eq0
            | bad => rw [ec] at eq0; cases eq0
            | ok b s4 =>
              rw [ec, bind_ok] at eq0
              intro ρ3 H3 e3 F4
              -- what stays
              have D3 : H3 D = some (.lst vacc) := e3.keep D _ (fun z => F3.apart z (.inr rfl)) hDv
              have ra3 : RVs X.K cid ρ3 (UU ρ3 Rd σ' s4) H3 acc vacc := RVs.step (RVs.mv (Mv.less fun q z => z.imp id (hm3 q)) ra) e3 fun q z => .inl z
              have hv3 : EVR X.K cid ρ3 (UU ρ3 Rd σ' s4) H3 σ' x v := EVR.step (EVR.mv (Mv.less fun q z => z.imp id (hm3 q)) (fun _ _ => rfl) (EVR.nosl hns hv2)) F3 (fun q z => .inl (.inr z)) e3 fun q z => .inl z
              have e13 : Ext ρ1 ρ3 (MM ρ1 σ s1) (MM ρ3 σ' s4) H1 H3 := (e2.sub hm3).trans e3
              cases b with
              | false =>
                rw [if_neg Bool.false_ne_true] at eq0 ⊢
                simp only [bind_ok] at eq0
                obtain ⟨F5, hm5⟩ := F4.wipe (own := own)
                rw [hwp] at F5 hm5
                have m5 : Mv ρ3 ρ3 (UU ρ3 Rd σ' s4) (UU ρ3 Rd (L2.wipe σ own) { s4 with σ := wipeG s4.σ own }) H3 H3 := Mv.less fun q z => z.imp id (hm5 q)
                exact ⟨ρ3, _, acc, vacc, F5, D3, RVs.mv m5 ra3, EVR.nosl hns (EVR.mv m5 (fun _ _ => rfl) hv3), e13.sub hm5, eq0⟩
              | true =>
                rw [if_pos rfl] at eq0 ⊢
                refine ⟨ρ3, Rd, s4, F4, ?_⟩
                cases ee : evE T F elt false s4 with
                | exc _ _ _ => rw [ee] at eq0; cases eq0
                | bad => rw [ee] at eq0; cases eq0
                | ok y s5 =>
                  rw [ee] at eq0
                  simp only [bind_ok] at eq0
                  intro ρ4 H4 e4 w hyx F5 hw
                  have D4 : H4 D = some (.lst vacc) := e4.keep D _ (fun z => F4.apart z (.inr rfl)) D3
                  obtain ⟨F6, rw6, hm6, _⟩ := FSim.fz F5 hw (fun q z y => F4.dom q y (hyx q z))
                  obtain ⟨F7, hm7⟩ := F6.wipe (own := own)
                  rw [hwp] at F7 hm7
                  have ra4 : RVs X.K cid ρ4 (UU ρ4 Rd σ' (fz s5 y).2) H4 acc vacc := RVs.step ra3 (e4.sub hm6) fun q z => .inl z
                  have hv4 : EVR X.K cid ρ4 (UU ρ4 Rd σ' (fz s5 y).2) H4 σ' x v := EVR.step hv3 F4 (fun q z => .inl (.inr z)) (e4.sub hm6) fun q z => .inl z
                  have m7 : Mv ρ4 ρ4 (UU ρ4 Rd σ' (fz s5 y).2) (UU ρ4 Rd (L2.wipe σ own) { (fz s5 y).2 with σ := wipeG (fz s5 y).2.σ own }) H4 H4 := Mv.less fun q z => z.imp id (hm7 q)
                  obtain ⟨F8, m8⟩ := F7.wr (D := D) (u := .lst (vacc ++ [w])) (.inr rfl)
                  refine ⟨vacc, D4, by rw [← ra4.length]; exact hsm.2, ρ4, _, acc ++ [(fz s5 y).1], vacc ++ [w], F8, upd_same, RVs.append (RVs.mv m8 (RVs.mv m7 ra4)) (RVs.one (RV.mv m8 (RV.mv m7 rw6))), ?_, ?_, eq0⟩
                  · refine EVR.nosl hns (EVR.mv m8 (fun q z => ?_) (EVR.mv m7 (fun _ _ => rfl) hv4))
                    rw [upd_ne]
                    intro y
                    exact hDn (.inr (by rw [← y]; exact z))
                  · have e14 : Ext ρ1 ρ4 (MM ρ1 σ s1) (MM ρ4 (L2.wipe σ own) { (fz s5 y).2 with σ := wipeG (fz s5 y).2.σ own }) H1 H4 := ((e13.trans e4).sub hm6).sub hm7
                    exact ⟨e14.pre, fun q o n h => by rw [upd_ne (fun z => by rw [z, hD] at h; cases h)]; exact e14.keep q o n h, fun q h => by
                      by_cases z : q = D
                      · rw [z, upd_same]; simp
                      · rw [upd_ne z]; exact e14.dom q h, e14.mb⟩
        · cases eq0
      · -- the end
        have e : i = vs.length := by omega
        subst e
        rw [List.drop_length] at eq
        have eq0 : (if same x val s2 then GI.R.ok acc s2 else GI.R.bad) = .ok vF sF := eq
        split at eq0
        · rename_i hsm
          have hvw := F2.rd (EVR.nosl (σ' := L2.wipe σ own) hns hv2)
          rw [show rd s2 x = val from hsm] at hvw
          cases eq0
          refine .inl ⟨ok.stop ρ2 _ H2 vs.length hvw (Nat.le_refl _), ?_⟩
          obtain ⟨F3, hm3⟩ := FSim.back F1 F2 hD e2
          refine mk_at G2 (e2.sub hm3) (F3.weak fun q z => z.elim (fun z => .inl (.inl z)) .inr) (fun z => hDn (.inl z)) hD ⟨vacc, hDv, RVs.mv (Mv.less fun q z => ?_) ra⟩
          rcases z with (z | z) | z
          · exact .inl (.inl (.inl z))
          · exact .inl (.inr z)
          · exact .inr (hm3 q z)
        · cases eq0

theorem sc_none {X : Cx} : PTs X [] (tCo X.K cid W T F .no) := ⟨fun pins s σ H Q I ⟨ρ, Rs, gs, Fs, G⟩ => pts_nil.run pins s σ H Q I (Good.valb (a := true) G Fs)⟩
theorem sc_one {X : Cx} {a : IE} {ea : Expr} (h : ST X cid W T F a ea) : PTs X [ea] (tCo X.K cid W T F (.so a)) := pts_one h
theorem s_lc {hp : Bool} {elt : IE} {tgt : IT} {it : II} {c : IEo} {own : List (Str × Nat)} {eelt tg iter : Expr} {ifs : List Expr} {scope : Scope} (hix : ∀ i ∈ tgt.ix, i ∈ own.map (·.2)) (hc : X.calm = true) (hN : X.N.Nodup) (hi : PI X tg iter (tI X.K cid W T F it)) (ok : BlkOk X.N X.env.scope scope own)
    (hg : ∀ (s : Shared) (H : Hp) (C : Addr) (cl : List (Str × Addr)) (fp : List Addr), PG (X.blk s H scope (compEnvC scope cl C X.env) fp) tg (gG X.K cid tgt)) (ht : ∀ (s : Shared) (H : Hp) (C : Addr) (cl : List (Str × Addr)) (fp : List Addr), PTs (X.blk s H scope (compEnvC scope cl C X.env) fp) ifs (tCo X.K cid W0 T F c))
    (he : ∀ (s : Shared) (H : Hp) (C : Addr) (cl : List (Str × Addr)) (fp : List Addr), SE (X.blk s H scope (compEnvC scope cl C X.env) fp) cid W0 T F elt eelt) (hs : ∀ x, foldedSetIterable iter X.env x = pure x) :
    SE X cid W T F (.lc hp elt tgt it c (own.map (·.2))) (.ListComp eelt [⟨tg, iter, ifs, 0⟩] scope pos) :=
  (pe_lc hc hN hi ok hg ht he hs).imp fun σ H Q h => lc_run hix h
end
end GI
set_option Elab.async false
set_option linter.all false
set_option maxRecDepth 100000
/-! GI.Stm: statements. -/
namespace GI
open PySem PySem.Spec PyProof.Rows L2
section
variable (K : PySem.W.Frag) (cid : Nat → Addr) (W : L2.WX)
def PostS (Rs : AP) (D : Ends) (f : Fl) (s' : GS) (σ' : St) (ρ' : List Addr) (H' : Hp) : Prop := match f with
  | .nx => D.nx σ' H'
  | .bk => D.bk σ' H'
  | .ct => D.ct σ' H'
  | .rt g => ∀ v, RV K cid ρ' (UU ρ' Rs σ' s') H' g v → D.rt v H'
/-- what a run of statements promises -/
def GoodS {α : Type} (ρ : List Addr) (Rs : AP) (H : Hp) (σ : St) (s : GS) (r : R α) (P : α → GS → St → List Addr → Hp → Prop) : Prop := match r with
  | .ok a s' => ∀ σ' ρ' H', Ext ρ ρ' (MM ρ σ s) (MM ρ' σ' s') H H' → FSim K cid ρ' Rs H' σ' s' → P a s' σ' ρ' H'
  | .exc c fs s' => ∀ σ' ρ' H' dd l, Ext ρ ρ' (MM ρ σ s) (MM ρ' σ' s') H H' → FSim K cid ρ' Rs H' σ' s' → H' dd = some (.xd l) → RFs K cid ρ' (UU ρ' Rs σ' s') H' fs l → W (.ref (cid c)) (some dd) σ' H'
  | .bad => False
end
section
variable {K : PySem.W.Frag} {cid : Nat → Addr} {W : L2.WX} {σ σ1 σ' σr : St} {ρ ρ1 ρ' : List Addr} {Rs Rs1 Rs2 : AP} {H H1 H' : Hp} {s s1 : GS} {D : Ends}
theorem GoodS.from {α : Type} {r : R α} {P : α → GS → St → List Addr → Hp → Prop} (x : Ext ρ ρ1 (MM ρ σ s) (MM ρ1 σ1 s1) H H1) (h : GoodS K cid W ρ Rs H σ s r P) : GoodS K cid W ρ1 Rs H1 σ1 s1 r P := by
  cases r with
  | ok a s' => exact fun σ' ρ' H' y => h σ' ρ' H' (x.trans y)
  | exc c fs s' => exact fun σ' ρ' H' dd l y => h σ' ρ' H' dd l (x.trans y)
  | bad => exact h
/-- first an expression -/
theorem GoodS.bindE {α β : Type} {r : R α} {f : α → GS → R β} {P : β → GS → St → List Addr → Hp → Prop} (h : GoodS K cid W ρ Rs H σ s (r.bind f) P) :
    Good K cid W σ ρ Rs H s r fun _ a s1 ρ1 H1 => GoodS K cid W ρ1 Rs H1 σ s1 (f a s1) P := by
  cases r with
  | ok a s' => exact fun ρ' H' y => GoodS.from y h
  | exc c fs s' => exact fun ρ' H' dd l => h σ ρ' H' dd l
  | bad => exact h.elim
/-- .. seen from the start -/
theorem GoodS.bindE0 {α β : Type} {r : R α} {f : α → GS → R β} {P : β → GS → St → List Addr → Hp → Prop} (h : GoodS K cid W ρ Rs H σ s (r.bind f) P) :
    Good K cid W σ ρ Rs H s r fun _ a s1 ρ1 H1 => GoodS K cid W ρ Rs H σ s (f a s1) P := by
  cases r with
  | ok a s' => exact fun ρ' H' y => h
  | exc c fs s' => exact fun ρ' H' dd l => h σ ρ' H' dd l
  | bad => exact h.elim
theorem GoodS.bindS {α β : Type} {r : R α} {f : α → GS → R β} {P : β → GS → St → List Addr → Hp → Prop} (h : GoodS K cid W ρ Rs H σ s (r.bind f) P) :
    GoodS K cid W ρ Rs H σ s r fun a s1 σ1 ρ1 H1 => GoodS K cid W ρ1 Rs H1 σ1 s1 (f a s1) P := by
  cases r with
  | ok a s' => exact fun σ' ρ' H' y F => GoodS.from y h
  | exc c fs s' => exact h
  | bad => exact h.elim
theorem GoodS.imp {α : Type} {r : R α} {P P' : α → GS → St → List Addr → Hp → Prop} (h : GoodS K cid W ρ Rs H σ s r P) (hp : ∀ a s' σ' ρ' H', Ext ρ ρ' (MM ρ σ s) (MM ρ' σ' s') H H' → FSim K cid ρ' Rs H' σ' s' → r = .ok a s' → P a s' σ' ρ' H' → P' a s' σ' ρ' H') : GoodS K cid W ρ Rs H σ s r P' := by
  cases r with
  | ok a s' => exact fun σ' ρ' H' y F => hp a s' σ' ρ' H' y F rfl (h σ' ρ' H' y F)
  | exc c fs s' => exact h
  | bad => exact h
theorem GoodS.ok {α : Type} {a : α} {P : α → GS → St → List Addr → Hp → Prop} (h : GoodS K cid W ρ Rs H σ s (.ok a s1) P) (e : Ext ρ ρ1 (MM ρ σ s) (MM ρ1 σ1 s1) H H1) (F : FSim K cid ρ1 Rs H1 σ1 s1) : P a s1 σ1 ρ1 H1 := h σ1 ρ1 H1 e F
theorem GoodS.val {α : Type} {a : α} {P : α → GS → St → List Addr → Hp → Prop} (h : GoodS K cid W ρ Rs H σ s (.ok a s) P) (F : FSim K cid ρ Rs H σ s) : P a s σ ρ H := h σ ρ H Ext.refl F
theorem lift_goodS {α β : Type} {o : Option α} {f : α → GS → R β} {P : β → GS → St → List Addr → Hp → Prop} (h : GoodS K cid W ρ Rs H σ s (lift o s f) P) : ∃ a, o = some a ∧ GoodS K cid W ρ Rs H σ s (f a s) P := by
  cases o with
  | none => exact h.elim
  | some a => exact ⟨a, rfl, h⟩
/-- a name takes an expression's value -/
theorem FSim.put1 {i : Nat} {x : EV} {v : V} (F : FSim K cid ρ (Rx Rs x v) H σr s) (h : EVR K cid ρ (UU ρ (Rx Rs x v) σr s) H σr x v) (hx : ∀ q, Xv x v q → ¬ Rs q) :
    FSim K cid ρ Rs H (σr.set i (some v)) (GI.put1 i x s) ∧ (∀ q, MM ρ (σr.set i (some v)) (GI.put1 i x s) q → MM ρ σr s q ∨ Xv x v q) ∧ (GI.put1 i x s).h = s.h := by
  cases x with
  | new o =>
    obtain ⟨p, rfl, r⟩ := h
    obtain ⟨F2, hm⟩ := FSim.seto (i := i) (F.weak fun q z => z) r (hx p rfl)
    exact ⟨F2, hm, rfl⟩
  | g g =>
    obtain ⟨F2, r, hm, hh⟩ := F.fz h hx
    obtain ⟨F3, hm3⟩ := F2.setv (i := i) r
    exact ⟨F3, fun q z => .inl (hm q (hm3 q z)), hh⟩
  | slot j =>
    obtain ⟨F2, r, hm, hh⟩ := F.fz h hx
    obtain ⟨F3, hm3⟩ := F2.setv (i := i) r
    exact ⟨F3, fun q z => .inl (hm q (hm3 q z)), hh⟩
end
theorem _root_.L2.PS.imp {X : Cx} {e : Stmt} {t t' : TS} (h : PS X e t) (f : ∀ D σ H, t' D σ H → t D σ H) : PS X e t' := ⟨fun pins s σ H D I q => h.run pins s σ H D I (f D σ H q)⟩
theorem _root_.L2.PSs.imp {X : Cx} {e : List Stmt} {t t' : TS} (h : PSs X e t) (f : ∀ D σ H, t' D σ H → t D σ H) : PSs X e t' := ⟨fun pins s σ H D I q => h.run pins s σ H D I (f D σ H q)⟩
theorem _root_.L2.PS.or {X : Cx} {e : Stmt} {t t' : TS} (h : PS X e t) (h' : PS X e t') : PS X e fun D σ H => t D σ H ∨ t' D σ H := ⟨fun pins s σ H D I q => q.elim (h.run pins s σ H D I) (h'.run pins s σ H D I)⟩
section
variable (K : PySem.W.Frag) (cid : Nat → Addr) (W : L2.WX) (T : Tab) (F : CF)
def tS (is : IS) : TS := fun D σ H => ∃ ρ Rs s, FSim K cid ρ Rs H σ s ∧ GoodS K cid W ρ Rs H σ s (evS T F is s) (PostS K cid Rs D)
def tSs (is : ISs) : TS := fun D σ H => ∃ ρ Rs s, FSim K cid ρ Rs H σ s ∧ GoodS K cid W ρ Rs H σ s (evSs T F is s) (PostS K cid Rs D)
end
section
variable {X : Cx} {cid : Nat → Addr} {W : L2.WX} {T : Tab} {F : CF} {a b c : IE} {ea eb ec : Expr} {pos : Pos}
abbrev SS (X : Cx) (cid : Nat → Addr) (W : L2.WX) (T : Tab) (F : CF) (is : IS) (st : Stmt) : Prop := PS X st (tS X.K cid W T F is)
abbrev SB (X : Cx) (cid : Nat → Addr) (W : L2.WX) (T : Tab) (F : CF) (is : ISs) (st : List Stmt) : Prop := PSs X st (tSs X.K cid W T F is)
theorem ss_nev {st : Stmt} : SS X cid W T F .nev st := ps_never.imp fun _ _ _ ⟨_, _, _, _, G⟩ => G
theorem ss_pass : SS X cid W T F .pass (.Pass pos) := ps_pass.imp fun D σ H ⟨ρ, Rs, s, Fs, G⟩ => GoodS.val (a := Fl.nx) G Fs
theorem ss_doc {x j pos'} : SS X cid W T F .pass (.Expr (.Constant (.str x) j pos) pos') := ps_doc.imp fun D σ H ⟨ρ, Rs, s, Fs, G⟩ => GoodS.val (a := Fl.nx) G Fs
theorem ss_brk : SS X cid W T F .brk (.Break pos) := ps_break.imp fun D σ H ⟨ρ, Rs, s, Fs, G⟩ => GoodS.val (a := Fl.bk) G Fs
theorem ss_cnt : SS X cid W T F .cnt (.Continue pos) := ps_continue.imp fun D σ H ⟨ρ, Rs, s, Fs, G⟩ => GoodS.val (a := Fl.ct) G Fs
theorem sb_nil : SB X cid W T F .nil [] := pss_nil.imp fun D σ H ⟨ρ, Rs, s, Fs, G⟩ => GoodS.val (a := Fl.nx) G Fs
theorem sb_cons {i : IS} {r : ISs} {st : Stmt} {rest : List Stmt} (h1 : SS X cid W T F i st) (h2 : SB X cid W T F r rest) : SB X cid W T F (.cons i r) (st :: rest) := by
  refine (pss_cons h1 h2).imp fun D σ H ⟨ρ, Rs, s, Fs, G⟩ => ?_
  have G' : GoodS X.K cid W ρ Rs H σ s ((evS T F i s).bind fun f s1 => (match f with
    | .nx => evSs T F r s1
    | f => .ok f s1)) (PostS X.K cid Rs D) := G
  refine ⟨ρ, Rs, s, Fs, (GoodS.bindS G').imp fun f s' σ' ρ' H' e F' _ G2 => ?_⟩
  cases f with
  | nx => exact ⟨ρ', Rs, s', F', G2⟩
  | bk => exact GoodS.val (W := W) (a := Fl.bk) G2 F'
  | ct => exact GoodS.val (W := W) (a := Fl.ct) G2 F'
  | rt g => exact GoodS.val (W := W) (a := Fl.rt g) G2 F'
theorem ss_exp (ha : SE X cid W T F a ea) (hs : swapsWith ea none pos.line X.env = pure false) : SS X cid W T F (.exp a) (.Expr ea pos) := by
  refine (ps_expr ha hs).imp fun D σ H ⟨ρ, Rs, s, Fs, G⟩ => ?_
  have G' : GoodS X.K cid W ρ Rs H σ s ((evE T F a false s).bind fun _ s1 => .ok .nx s1) (PostS X.K cid Rs D) := G
  refine ⟨ρ, Rs, s, Fs, (GoodS.bindE G').imp fun x s1 ρ1 H1 e1 G1 => ?_⟩
  intro v hx F1 hv
  exact GoodS.val (a := Fl.nx) G1 (F1.weak fun q z => .inl z)
theorem ss_retN : SS X cid W T F (.ret .no) (.Return none pos) := ps_retN.imp fun D σ H ⟨ρ, Rs, s, Fs, G⟩ => GoodS.val (a := Fl.rt .non) G Fs .non rfl
theorem ss_ret (ha : SE X cid W T F a ea) : SS X cid W T F (.ret (.so a)) (.Return (some ea) pos) := by
  refine (ps_ret ha).imp fun D σ H ⟨ρ, Rs, s, Fs, G⟩ => ?_
  have G' : GoodS X.K cid W ρ Rs H σ s ((evE T F a false s).bind fun x s1 => .ok (.rt (fz s1 x).1) (fz s1 x).2) (PostS X.K cid Rs D) := G
  refine ⟨ρ, Rs, s, Fs, (GoodS.bindE G').imp fun x s1 ρ1 H1 e1 G1 => ?_⟩
  intro v hx F1 hv
  obtain ⟨F2, r, hm, _⟩ := F1.fz hv (fun q z y => Fs.dom q y (hx q z))
  exact GoodS.ok (a := Fl.rt (fz s1 x).1) G1 (Ext.sub (B := MM ρ1 σ s1) Ext.refl hm) F2 v r
theorem ss_if {t u : ISs} {ta ua : List Stmt} (hc : ST X cid W T F c ec) (ha : SB X cid W T F t ta) (hb : SB X cid W T F u ua) : SS X cid W T F (.ife c t u) (.If ec ta ua pos) := by
  refine (ps_if hc ha hb).imp fun D σ H ⟨ρ, Rs, s, Fs, G⟩ => ?_
  have G' : GoodS X.K cid W ρ Rs H σ s ((tst (evE T F c true s)).bind fun t' s1 => if t' then evSs T F t s1 else evSs T F u s1) (PostS X.K cid Rs D) := G
  refine ⟨ρ, Rs, s, Fs, (GoodS.bindE G').imp fun k s1 ρ1 H1 e1 G1 F1 => ?_⟩
  cases k with
  | true => exact ⟨ρ1, Rs, s1, F1, G1⟩
  | false => exact ⟨ρ1, Rs, s1, F1, G1⟩
theorem asg_run {i : Nat} {D : Ends} {σ : St} {H : Hp} (h : tS X.K cid W T F (.asg i a) D σ H) : tAsg (tE X.K cid W T F a) (gName i) D σ H := by
  obtain ⟨ρ, Rs, s, Fs, G⟩ := h
  have G' : GoodS X.K cid W ρ Rs H σ s ((evE T F a false s).bind fun x s1 => .ok .nx (put1 i x s1)) (PostS X.K cid Rs D) := G
  refine ⟨ρ, Rs, s, Fs, (GoodS.bindE0 G').imp fun x s1 ρ1 H1 e1 G1 => ?_⟩
  intro v hx F1 hv
  obtain ⟨F2, hm, _⟩ := F1.put1 (i := i) hv (fun q z y => Fs.dom q y (hx q z))
  exact GoodS.ok (a := Fl.nx) G1 ⟨e1.pre, e1.keep, e1.dom, fun q z => (hm q z).elim (e1.mb q) fun z => .inr (hx q z)⟩ F2
theorem ss_asg {i : Nat} {x : Str} {pos' : Pos} (hN : X.N.Nodup) (hi : X.N[i]? = some x) (hx : Loc X.env.scope x) (ha : SE X cid W T F a ea) (hs : swapsWith ea (some (.Name x pos')) pos.line X.env = pure false) (hf : X.fn x = true ∨ X.env.scope.names.lookup x = some .local) :
    SS X cid W T F (.asg i a) (.Assign [.Name x pos'] ea pos) := (ps_set hN hi hx ha hs hf).imp fun D σ H h => asg_run h
/-- name = [..], on one line -/
theorem ss_asgLc {i : Nat} {y : Str} {py spos : Pos} {hp : Bool} {elt : IE} {tgt : IT} {it : II} {c : IEo} {own : List (Str × Nat)} {eelt tg iter : Expr} {ifs : List Expr} {scope : Scope} (hix : ∀ i ∈ tgt.ix, i ∈ own.map (·.2)) (hc : X.calm = true) (hN : X.N.Nodup) (hy : X.N[i]? = some y) (hyl : X.env.scope.names.lookup y = some .local)
    (hsw : swapsWith (.ListComp eelt [⟨tg, iter, ifs, 0⟩] scope pos) (some (.Name y py)) spos.line X.env = pure true) (hi : PI X tg iter (tI X.K cid W T F it)) (ok : BlkOk X.N X.env.scope scope own)
    (hg : ∀ (s : Shared) (H : Hp) (C : Addr) (cl : List (Str × Addr)) (fp : List Addr), PG (X.blk s H scope (compEnvC scope cl C X.env) fp) tg (gG X.K cid tgt)) (ht : ∀ (s : Shared) (H : Hp) (C : Addr) (cl : List (Str × Addr)) (fp : List Addr), PTs (X.blk s H scope (compEnvC scope cl C X.env) fp) ifs (tCo X.K cid W0 T F c))
    (he : ∀ (s : Shared) (H : Hp) (C : Addr) (cl : List (Str × Addr)) (fp : List Addr), SE (X.blk s H scope (compEnvC scope cl C X.env) fp) cid W0 T F elt eelt) (hs : ∀ x, foldedSetIterable iter X.env x = pure x) :
    SS X cid W T F (.asg i (.lc hp elt tgt it c (own.map (·.2)))) (.Assign [.Name y py] (.ListComp eelt [⟨tg, iter, ifs, 0⟩] scope pos) spos) := by
  refine (ps_setLc (te := tE X.K cid W0 T F elt) hc hN hy hyl hsw hi ok hg ht he hs).imp fun D σ H h => ?_
  obtain ⟨ρ, Rs, s, Fs, G⟩ := asg_run h
  exact lc_run hix ⟨ρ, Rs, s, Fs, G⟩

end
/-! ### several names at once -/
section
variable {K : PySem.W.Frag} {cid : Nat → Addr} {W : L2.WX} {σ σ1 σ' σr : St} {ρ ρ1 ρ' : List Addr} {Rs Rs1 Rs2 : AP} {H H1 H' : Hp} {s s1 : GS} {D : Ends}
def noSlots : List EV → Prop
  | [] => True
  | x :: r => noSlot x ∧ noSlots r
theorem FSim.pins : ∀ {Rs : AP} {xs : List EV} {vs : List V} {s : GS}, FSim K cid ρ (fun q => Rs q ∨ Xs xs vs q) H σr s → EVRs K cid ρ (UU ρ (fun q => Rs q ∨ Xs xs vs q) σr s) H σr xs vs →
    FSim K cid ρ (fun q => Rs q ∨ Xs (GI.pins s xs).1 vs q) H σr (GI.pins s xs).2 ∧ EVRs K cid ρ (UU ρ (fun q => Rs q ∨ Xs (GI.pins s xs).1 vs q) σr (GI.pins s xs).2) H σr (GI.pins s xs).1 vs ∧ (∀ q, MM ρ σr (GI.pins s xs).2 q → MM ρ σr s q) ∧ (∀ q, Xs (GI.pins s xs).1 vs q → Xs xs vs q) ∧ noSlots (GI.pins s xs).1
  | Rs, [], [], s, F, h => ⟨F, h, fun _ z => z, fun _ z => z, True.intro⟩
  | _, [], _ :: _, _, _, h => h.elim
  | _, _ :: _, [], _, _, h => h.elim
  | Rs, x :: xs, v :: vs, s, F, h => by
    have F1 : FSim K cid ρ (Rx (fun q => Rs q ∨ Xs xs vs q) x v) H σr s := F.weak fun q z => by
      rcases z with (z | z) | z
      · exact .inl z
      · exact .inr (.inr z)
      · exact .inr (.inl z)
    have m1 : Mv ρ ρ (UU ρ (fun q => Rs q ∨ Xs (x :: xs) (v :: vs) q) σr s) (UU ρ (Rx (fun q => Rs q ∨ Xs xs vs q) x v) σr s) H H := Mv.less fun q z => by
      rcases z with ((z | z) | z) | z
      · exact .inl (.inl z)
      · exact .inl (.inr (.inr z))
      · exact .inl (.inr (.inl z))
      · exact .inr z
    obtain ⟨F2, r, hm, hX⟩ := FSim.pin F1 (EVR.mv m1 (fun _ _ => rfl) h.1)
    have F2' : FSim K cid ρ (fun q => (Rs q ∨ Xv (GI.pin s x).1 v q) ∨ Xs xs vs q) H σr (GI.pin s x).2 := F2.weak fun q z => by
      rcases z with (z | z) | z
      · exact .inl (.inl z)
      · exact .inr z
      · exact .inl (.inr z)
    have m2 : Mv ρ ρ (UU ρ (fun q => Rs q ∨ Xs (x :: xs) (v :: vs) q) σr s) (UU ρ (fun q => (Rs q ∨ Xv (GI.pin s x).1 v q) ∨ Xs xs vs q) σr (GI.pin s x).2) H H := Mv.less fun q z => by
      rcases z with ((z | z) | z) | z
      · exact .inl (.inl z)
      · exact .inl (.inr (.inl (hX q z)))
      · exact .inl (.inr (.inr z))
      · exact .inr (hm q z)
    obtain ⟨F3, r3, hm3, hX3, ns⟩ := FSim.pins F2' (EVRs.mv m2 (fun _ _ => rfl) h.2)
    have l3 : ∀ q, (Rs q ∨ Xs ((GI.pin s x).1 :: (GI.pins (GI.pin s x).2 xs).1) (v :: vs) q) → ((Rs q ∨ Xv (GI.pin s x).1 v q) ∨ Xs (GI.pins (GI.pin s x).2 xs).1 vs q) := fun q z => by
      rcases z with z | z | z
      · exact .inl (.inl z)
      · exact .inl (.inr z)
      · exact .inr z
    have m3 : Mv ρ ρ (UU ρ (fun q => (Rs q ∨ Xv (GI.pin s x).1 v q) ∨ Xs (GI.pins (GI.pin s x).2 xs).1 vs q) σr (GI.pins (GI.pin s x).2 xs).2) (UU ρ (fun q => Rs q ∨ Xs ((GI.pin s x).1 :: (GI.pins (GI.pin s x).2 xs).1) (v :: vs) q) σr (GI.pins (GI.pin s x).2 xs).2) H H := Mv.less fun q z => z.imp (l3 q) id
    refine ⟨F3.weak l3, ⟨EVR.mv (Mv.less fun q z => ?_) (fun _ _ => rfl) r, EVRs.mv m3 (fun _ _ => rfl) r3⟩, fun q z => hm q (hm3 q z), fun q z => ?_, ⟨pin_noSlot, ns⟩⟩
    · rcases z with z | z
      · rcases l3 q z with (z | z) | z
        · exact .inl (.inl (.inl z))
        · exact .inl (.inr z)
        · exact .inl (.inl (.inr (hX3 q z)))
      · exact .inr (hm3 q z)
    · rcases z with z | z
      · exact .inl (hX q z)
      · exact .inr (hX3 q z)
def setr : St → List Nat → List V → St
  | σ, i :: is, v :: vs => setr (σ.set i (some v)) is vs
  | σ, _, _ => σ
theorem FSim.puts : ∀ {is : List Nat} {xs : List EV} {vs : List V} {s : GS} {σr : St}, is.length = xs.length → FSim K cid ρ (fun q => Rs q ∨ Xs xs vs q) H σr s → EVRs K cid ρ (UU ρ (fun q => Rs q ∨ Xs xs vs q) σr s) H σr xs vs → Dis xs vs → (∀ q, Xs xs vs q → ¬ Rs q) → noSlots xs →
    FSim K cid ρ Rs H (setr σr is vs) (GI.puts is xs s) ∧ (∀ q, MM ρ (setr σr is vs) (GI.puts is xs s) q → MM ρ σr s q ∨ Xs xs vs q)
  | [], [], [], s, _, _, F, h, d, hx, ns => ⟨F.weak fun _ z => .inl z, fun _ z => .inl z⟩
  | _ :: _, [], _, _, _, hl, _, _, _, _, _ => by cases hl
  | [], _ :: _, _, _, _, hl, _, _, _, _, _ => by cases hl
  | _, [], _ :: _, _, _, _, _, h, _, _, _ => h.elim
  | _, _ :: _, [], _, _, _, _, h, _, _, _ => h.elim
  | i :: is, x :: xs, v :: vs, s, σr, hl, F, h, d, hx, ns => by
    have F1 : FSim K cid ρ (Rx (fun q => Rs q ∨ Xs xs vs q) x v) H σr s := F.weak fun q z => by
      rcases z with (z | z) | z
      · exact .inl z
      · exact .inr (.inr z)
      · exact .inr (.inl z)
    have m1 : Mv ρ ρ (UU ρ (fun q => Rs q ∨ Xs (x :: xs) (v :: vs) q) σr s) (UU ρ (Rx (fun q => Rs q ∨ Xs xs vs q) x v) σr s) H H := Mv.less fun q z => by
      rcases z with ((z | z) | z) | z
      · exact .inl (.inl z)
      · exact .inl (.inr (.inr z))
      · exact .inl (.inr (.inl z))
      · exact .inr z
    obtain ⟨F2, hm, _⟩ := FSim.put1 (i := i) F1 (EVR.mv m1 (fun _ _ => rfl) h.1) (fun q z y => by
      rcases y with y | y
      · exact hx q (.inl z) y
      · exact d.1 q z y)
    have m2 : Mv ρ ρ (UU ρ (fun q => Rs q ∨ Xs (x :: xs) (v :: vs) q) σr s) (UU ρ (fun q => Rs q ∨ Xs xs vs q) (σr.set i (some v)) (GI.put1 i x s)) H H := Mv.less fun q z => by
      rcases z with (z | z) | z
      · exact .inl (.inl z)
      · exact .inl (.inr (.inr z))
      · rcases hm q z with z | z
        · exact .inr z
        · exact .inl (.inr (.inl z))
    have hns : ∀ {xs : List EV} {vs : List V} {U : AP} {σ σ' : St}, noSlots xs → EVRs K cid ρ U H σ xs vs → EVRs K cid ρ U H σ' xs vs := by
      intro xs
      induction xs with
      | nil => intro vs U σ σ' _ h; cases vs with
        | nil => exact True.intro
        | cons _ _ => exact h.elim
      | cons x xs ih => intro vs U σ σ' n h; cases vs with
        | nil => exact h.elim
        | cons v vs => exact ⟨EVR.nosl n.1 h.1, ih n.2 h.2⟩
    obtain ⟨F3, hm3⟩ := FSim.puts (is := is) (Nat.succ.inj hl) F2 (hns ns.2 (EVRs.mv m2 (fun _ _ => rfl) h.2)) d.2 (fun q z => hx q (.inr z)) ns.2
    refine ⟨F3, fun q z => ?_⟩
    rcases hm3 q z with z | z
    · rcases hm q z with z | z
      · exact .inl z
      · exact .inr (.inl z)
    · exact .inr (.inr z)
end
section
variable {X : Cx} {cid : Nat → Addr} {W : L2.WX} {T : Tab} {F : CF} {a b c : IE} {ea eb ec : Expr} {pos : Pos}
theorem pins_dis {K : PySem.W.Frag} {ρ : List Addr} {U : AP} {H : Hp} {σr : St} : ∀ {xs : List EV} {vs : List V} {s : GS}, Dis xs vs → (∀ q, Xs (pins s xs).1 vs q → Xs xs vs q) ∧ Dis (pins s xs).1 vs
  | [], _, _, d => ⟨fun _ z => z, True.intro⟩
  | _ :: _, [], _, d => ⟨fun _ z => z, True.intro⟩
  | x :: xs, v :: vs, s, d => by
    obtain ⟨h1, h2⟩ := pins_dis (K := K) (ρ := ρ) (U := U) (H := H) (σr := σr) (s := (pin s x).2) d.2
    have hX : ∀ q, Xv (pin s x).1 v q → Xv x v q := by
      cases x with
      | slot _ => exact fun q z => z.elim
      | g _ => exact fun _ z => z
      | new _ => exact fun _ z => z
    exact ⟨fun q z => z.imp (hX q) (h1 q), ⟨fun q z y => d.1 q (hX q z) (h1 q y), h2⟩⟩
theorem pins_len : ∀ {xs : List EV} {s : GS}, (pins s xs).1.length = xs.length
  | [], _ => rfl
  | x :: xs, s => by show (pins (pin s x).2 xs).1.length + 1 = _; rw [pins_len]; rfl
theorem par_run {is : List Nat} {es : IEs} {D : Ends} {σ : St} {H : Hp} (h : tS X.K cid W T F (.par is es) D σ H) (hl : ∀ s xs s1, evVs T F es s = .ok xs s1 → is.length = xs.length) :
    tL X.K cid W T F es σ H fun vs H1 => vs.length = is.length ∧ D.nx (setr σ is vs) H1 := by
  obtain ⟨ρ, Rs, s, Fs, G⟩ := h
  have G' : GoodS X.K cid W ρ Rs H σ s ((evVs T F es s).bind fun xs s1 => .ok .nx (puts is (pins s1 xs).1 (pins s1 xs).2)) (PostS X.K cid Rs D) := G
  refine ⟨ρ, Rs, s, Fs, (Good.eq (Good.imp (P' := fun _ xs s1 ρ1 H1 => GoodS X.K cid W ρ Rs H σ s (.ok .nx (puts is (pins s1 xs).1 (pins s1 xs).2)) (PostS X.K cid Rs D)) (GoodS.bindE0 G') fun _ _ _ _ _ z => z)).imp fun xs s1 ρ1 H1 e1 ⟨ex, G1⟩ => ?_⟩
  intro vs hx hd F1 hv
  have hlen := hl _ _ _ ex
  obtain ⟨F2, r2, hm2, hX2, ns⟩ := F1.pins hv
  have pl := pins_len (s := s1) (xs := xs)
  obtain ⟨F3, hm3⟩ := F2.puts (is := is) (by rw [pl]; exact hlen) r2 (pins_dis (K := X.K) (ρ := ρ1) (U := fun _ => False) (H := H1) (σr := σ) hd).2 (fun q z y => Fs.dom q y (hx q (hX2 q z))) ns
  refine ⟨by rw [evrs_len hv]; exact hlen.symm, GoodS.ok (a := Fl.nx) G1 ⟨e1.pre, e1.keep, e1.dom, fun q z => ?_⟩ F3⟩
  rcases hm3 q z with z | z
  · exact e1.mb q (hm2 q z)
  · exact .inr (hx q (hX2 q z))
theorem evVs_len {es : IEs} : ∀ {n : Nat} {s s1 : GS} {xs : List EV}, (∀ s xs s1, evVs T F es s = .ok xs s1 → xs.length = n) → evVs T F (.cons a es) s = .ok xs s1 → xs.length = n + 1 := by
  intro n s s1 xs h e
  have e' : ((evE T F a false s).bind fun x s1 => (evVs T F es s1).bind fun xs s2 => GI.R.ok (x :: xs) s2) = .ok xs s1 := e
  cases q : evE T F a false s with
  | exc _ _ _ => rw [q] at e'; cases e'
  | bad => rw [q] at e'; cases e'
  | ok x s2 =>
    rw [q, bind_ok] at e'
    cases q2 : evVs T F es s2 with
    | exc _ _ _ => rw [q2] at e'; cases e'
    | bad => rw [q2] at e'; cases e'
    | ok ys s3 => rw [q2] at e'; cases e'; rw [List.length_cons, h _ _ _ q2]
theorem evVs_len0 {s s1 : GS} {xs : List EV} (h : evVs T F .nil s = .ok xs s1) : xs.length = 0 := by
  have : GI.R.ok [] s = .ok xs s1 := h
  cases this; rfl
theorem ss_par2 {i j : Nat} {x y : Str} {px py pt : Pos} {kt k2 pt2} (hc : X.calm = true) (hN : X.N.Nodup) (hi : X.N[i]? = some x) (hj : X.N[j]? = some y) (hij : i ≠ j)
    (hx : X.env.scope.names.lookup x = some .local) (hy : X.env.scope.names.lookup y = some .local) (ha : SL X cid W T F (.cons a (.cons b .nil)) [ea, eb])
    (hw : swappedStores [.Tuple [.Name x px, .Name y py] kt pt] (.Tuple [ea, eb] k2 pt2) X.env = pure (some [x, y])) :
    SS X cid W T F (.par [i, j] (.cons a (.cons b .nil))) (.Assign [.Tuple [.Name x px, .Name y py] kt pt] (.Tuple [ea, eb] k2 pt2) pos) := by
  refine (ps_par hc hN hi hj hij hx hy ha hw rfl).imp fun D σ H h => ?_
  obtain ⟨ρ, Rs, s, Fs, G⟩ := par_run h fun s xs s1 e => (evVs_len (n := 1) (fun _ _ _ e => evVs_len (n := 0) (fun _ _ _ e => evVs_len0 e) e) e).symm
  refine ⟨ρ, Rs, s, Fs, G.imp fun xs s1 ρ1 H1 e1 g vs hx hd F1 hv => ?_⟩
  obtain ⟨h1, h2⟩ := g vs hx hd F1 hv
  match vs, h1 with
  | [v, w], _ => exact ⟨v, w, rfl, h2⟩
theorem ss_par3 {i j l : Nat} {x y z : Str} {px py pz pt : Pos} {kt k2 pt2} (hc : X.calm = true) (hN : X.N.Nodup) (hi : X.N[i]? = some x) (hj : X.N[j]? = some y) (hl : X.N[l]? = some z) (hij : i ≠ j) (hil : i ≠ l) (hjl : j ≠ l)
    (hx : X.env.scope.names.lookup x = some .local) (hy : X.env.scope.names.lookup y = some .local) (hz : X.env.scope.names.lookup z = some .local) (ha : SL X cid W T F (.cons a (.cons b (.cons c .nil))) [ea, eb, ec])
    (hw : swappedStores [.Tuple [.Name x px, .Name y py, .Name z pz] kt pt] (.Tuple [ea, eb, ec] k2 pt2) X.env = pure (some [x, y, z])) :
    SS X cid W T F (.par [i, j, l] (.cons a (.cons b (.cons c .nil)))) (.Assign [.Tuple [.Name x px, .Name y py, .Name z pz] kt pt] (.Tuple [ea, eb, ec] k2 pt2) pos) := by
  refine (ps_par3 hc hN hi hj hl hij hil hjl hx hy hz ha hw rfl).imp fun D σ H h => ?_
  obtain ⟨ρ, Rs, s, Fs, G⟩ := par_run h fun s xs s1 e => (evVs_len (n := 2) (fun _ _ _ e => evVs_len (n := 1) (fun _ _ _ e => evVs_len (n := 0) (fun _ _ _ e => evVs_len0 e) e) e) e).symm
  refine ⟨ρ, Rs, s, Fs, G.imp fun xs s1 ρ1 H1 e1 g vs hx hd F1 hv => ?_⟩
  obtain ⟨h1, h2⟩ := g vs hx hd F1 hv
  match vs, h1 with
  | [v, w, u], _ => exact ⟨v, w, u, rfl, h2⟩
/-- (a, b) = .. -/
theorem ss_unp {is : List Nat} {es : List Expr} {kk : Nat} {pt : Pos} (hc : X.calm = true) (hN : X.N.Nodup) (h : SNm X is es) (ha : SE X cid W T F a ea) (hw : swappedStores [.Tuple es kk pt] ea X.env = pure none) (hs : swapsWithSole [.Tuple es kk pt] ea pos.line X.env = pure false) :
    SS X cid W T F (.unp is a) (.Assign [.Tuple es kk pt] ea pos) := by
  have hE : ∀ {is : List Nat} {es : List Expr}, SNm X is es → (assignEach es X.env).length = is.length ∧ (assignEach es X.env).findIdx? (·.1) = none := by
    intro is es h
    induction h with
    | nil => exact ⟨rfl, rfl⟩
    | @cons i x pos is es hi hx hf rr ih =>
      refine ⟨?_, ?_⟩
      · show (assignEach es X.env).length + 1 = _
        rw [ih.1]; rfl
      · show List.findIdx? (·.1) ((false, _) :: assignEach es X.env) = none
        rw [List.findIdx?_cons]
        simp only [Bool.false_eq_true, if_false]
        rw [ih.2]; rfl
  obtain ⟨h1, h2⟩ := hE h
  refine (ps_asg ha ((pg_tup hc (sg_nms (cid := cid) hN h) h1 h2).or (pg_lst hc (sg_nms (cid := cid) hN h) h1 h2)) hs hw rfl).imp fun D σ H ⟨ρ, Rs, s, Fs, G⟩ => ?_
  have G' : GoodS X.K cid W ρ Rs H σ s ((evE T F a false s).bind fun x s1 => lift (unpk (rd s1 x) is.length) s1 fun vs s2 => .ok .nx { s2 with σ := sets s2.σ is vs }) (PostS X.K cid Rs D) := G
  refine ⟨ρ, Rs, s, Fs, (GoodS.bindE G').imp fun x s1 ρ1 H1 e1 G1 => ?_⟩
  intro v hx F1 hv
  obtain ⟨gs, eu, G2⟩ := lift_goodS G1
  have hw := F1.rd hv
  have fin : ∀ {vs : List V}, RVs X.K cid ρ1 (UU ρ1 (Rx Rs x v) σ s1) H1 gs vs → gs.length = is.length → gGs X.K cid is vs σ H1 D.nx := fun {vs} r hl =>
    ⟨ρ1, _, s1, gs, F1, r, hl, fun σ' hs F3 hm3 => GoodS.ok (a := Fl.nx) G2 (Ext.sub (B := MM ρ1 σ s1) Ext.refl hm3) (F3.weak fun q z => .inl z)⟩
  cases er : rd s1 x with
  | tup xs =>
    rw [er] at eu hw
    have e2 : (if xs.length = is.length then some xs else none) = some gs := eu
    split at e2
    · rename_i hl
      cases e2
      obtain ⟨p, l, rfl, hp, rr⟩ := hw
      refine .inl ⟨p, l, rfl, ?_, rr.length.symm.trans hl, fin rr hl⟩
      rcases hp with z | ⟨o, its, n, z⟩
      · exact SqT.of z.2
      · exact .inr ⟨o, its, n, z⟩
    · cases e2
  | lst xs =>
    rw [er] at eu hw
    have e2 : (if xs.length = is.length then some xs else none) = some gs := eu
    split at e2
    · rename_i hl
      cases e2
      obtain ⟨p, l, rfl, hp, rr⟩ := hw
      exact .inr ⟨p, l, rfl, SqL.of hp, rr.length.symm.trans hl, fin rr hl⟩
    · cases e2
  | _ => rw [er] at eu; cases eu
/-- e.f = v -/
theorem ss_setA {k : Nat} {fa : Nat → Addr} {f : String} {pos' : Pos} (To : TabOk X.prog X.w X.K X.mg X.base cid fa T F k) (ho : SE X cid W T F a ea) (hv : SE X cid W T F b eb) (hs : swapsWith eb (some (.Attribute ea (Str.ofString f) pos')) pos.line X.env = pure false) :
    SS X cid W T F (.setA a f b) (.Assign [.Attribute ea (Str.ofString f) pos'] eb pos) := by
  refine (ps_fld ho hv hs).imp fun D σ H ⟨ρ, Rs, s, Fs, G⟩ => ?_
  have G' : GoodS X.K cid W ρ Rs H σ s ((evE T F b false s).bind fun x s1 => (evE T F a false s1).bind fun y s2 => (upo y (putFld T f (fz s2 x).1) (fz s2 x).2).bind fun _ s4 => .ok .nx s4) (PostS X.K cid Rs D) := G
  refine ⟨ρ, Rs, s, Fs, (GoodS.bindE G').imp fun x s1 ρ1 H1 e1 G1 => ?_⟩
  intro v hx F1 hv
  refine ⟨ρ1, _, s1, F1, (Good.moreR (fun q z => .inl z) (GoodS.bindE G1)).imp fun y s2 ρ2 H2 e2 G2 => ?_⟩
  intro w hy F2 hw
  have hv2 : EVR X.K cid ρ2 (UU ρ2 (Rx (Rx Rs y w) x v) σ s2) H2 σ x v := EVR.step hv F1 (fun q z => .inr z) e2 fun q z => by
    rcases z with (z | z) | z
    · exact .inl (.inl z)
    · exact .inr (hy q z)
    · exact .inl (.inr z)
  have F2' : FSim X.K cid ρ2 (Rx (Rx Rs y w) x v) H2 σ s2 := F2.weak fun q z => by
    rcases z with (z | z) | z
    · exact .inl (.inl z)
    · exact .inr z
    · exact .inl (.inr z)
  obtain ⟨F3, r3, hm3, hh3⟩ := F2'.fz hv2 (fun q z y2 => by
    rcases y2 with y2 | y2
    · exact Fs.dom q y2 (hx q z)
    · exact F1.dom q (.inr z) (hy q y2))
  have hw3 : EVR X.K cid ρ2 (UU ρ2 (Rx Rs y w) σ (fz s2 x).2) H2 σ y w := EVR.mv (Mv.less fun q z => by
    rcases z with (z | z) | z
    · exact .inl (.inl (.inl z))
    · exact .inl (.inr z)
    · exact .inr (hm3 q z)) (fun _ _ => rfl) hw
  unfold upo at G2
  cases ec : cont (fz s2 x).2 y with
  | none => rw [ec] at G2; exact G2.elim
  | some o =>
    rw [ec] at G2
    simp only at G2
    cases ef : putFld T f (fz s2 x).1 o with
    | none => rw [ef] at G2; exact G2.elim
    | some ro =>
      obtain ⟨rr, o'⟩ := ro
      rw [ef] at G2
      simp only [bind_ok] at G2
      have ef0 := ef
      unfold putFld at ef
      split at ef
      · rename_i c fs
        split at ef
        · rename_i d ed
          split at ef
          · rename_i hz
            cases ef
            obtain ⟨p, rfl, ro, hmp, go⟩ := F3.ch hw3 ec (by intro z; cases z)
            obtain ⟨dx, l, hp, rf⟩ := ro
            have C := To.cl c d ed
            refine ⟨p, cid c, dx, l, rfl, hp, C.cls, C.noat f hz.2, by rw [rfs_len rf]; exact hz.1, ?_⟩
            obtain ⟨m5, hm5, F5⟩ := go (.ins (cid c) dx (L2.putF (Str.ofString f) v l)) (.ins c (putF f (fz s2 x).1 fs)) (by intro z; cases z)
            have F6 := F5 ⟨dx, _, upd_same, rfs_put (RV.mv m5 r3) (RFs.mv m5 rf)⟩
            refine GoodS.ok (a := Fl.nx) G2 ⟨⟨[], by simp⟩, fun q o n h => ?_, fun q h => ?_, fun q z => .inl (hm3 q (hm5 q z))⟩ (F6.weak fun q z => .inl z)
            · rw [upd_ne (fun z => n (by rw [z]; exact hm3 p hmp))]; exact h
            · by_cases z : q = p
              · rw [z, upd_same]; simp
              · rw [upd_ne z]; exact h
          · cases ef
        · cases ef
      · cases ef
/-- o[i] = v -/
theorem ss_setI {tp : Pos} (hb : SE X cid W T F b eb) (ho : SE X cid W T F a ea) (hc : SE X cid W T F c ec) (hs : swapsWithSole [.Subscript ea ec tp] eb pos.line X.env = pure false) (hw : swappedStores [.Subscript ea ec tp] eb X.env = pure none)
    (hr : ∀ v, assign (.Subscript ea ec tp) X.env v = (do
      let ov ← holding [v] (eval ea X.env)
      let iv ← holding [v, ov] (eval ec X.env)
      standAt tp
      holding [v, ov, iv] (setItem ov iv v)
      release [v, ov, iv] [])) : SS X cid W T F (.setI a c b) (.Assign [.Subscript ea ec tp] eb pos) := by
  refine (ps_asg hb (pg_sub ho hc set_list hr) hs hw rfl).imp fun D σ H ⟨ρ, Rs, s, Fs, G⟩ => ?_
  have G' : GoodS X.K cid W ρ Rs H σ s ((evE T F b false s).bind fun x s1 => (evE T F a false s1).bind fun y s2 => (evE T F c false s2).bind fun z s3 => (upo y (putIx (fz (fz s3 x).2 z).1 (fz s3 x).1) (fz (fz s3 x).2 z).2).bind fun _ s6 => .ok .nx s6) (PostS X.K cid Rs D) := G
  refine ⟨ρ, Rs, s, Fs, (GoodS.bindE G').imp fun x s1 ρ1 H1 e1 G1 => ?_⟩
  intro v hx F1 hv
  refine ⟨ρ1, _, s1, F1, (Good.moreR (fun q z => .inl z) (GoodS.bindE G1)).imp fun y s2 ρ2 H2 e2 G2 => ?_⟩
  intro w hy F2 hw
  refine ⟨ρ2, _, s2, F2, (Good.moreR (fun q z => .inl (.inl z)) (GoodS.bindE G2)).imp fun z s3 ρ3 H3 e3 G3 => ?_⟩
  intro u hz F3 hu
  have hv3 : EVR X.K cid ρ3 (UU ρ3 (Rx (Rx (Rx Rs y w) z u) x v) σ s3) H3 σ x v := EVR.step hv F1 (fun q z => .inr z) (e2.trans e3) fun q k => by
    rcases k with ((k | k) | k) | k
    · exact .inl (.inl k)
    · exact .inr (hy q k)
    · exact .inr (nn e2.dom (hz q k))
    · exact .inl (.inr k)
  have hw3 : EVR X.K cid ρ3 (UU ρ3 (Rx (Rx (Rx Rs y w) z u) x v) σ s3) H3 σ y w := EVR.step hw F2 (fun q z => .inr z) e3 fun q k => by
    rcases k with ((k | k) | k) | k
    · exact .inl (.inl (.inl k))
    · exact .inl (.inr k)
    · exact .inr (hz q k)
    · exact .inl (.inl (.inr k))
  have l3 : ∀ q, Rx (Rx (Rx Rs y w) z u) x v q → Rx (Rx (Rx Rs x v) y w) z u q := fun q k => by
    rcases k with ((k | k) | k) | k
    · exact .inl (.inl (.inl k))
    · exact .inl (.inr k)
    · exact .inr k
    · exact .inl (.inl (.inr k))
  have hu3 : EVR X.K cid ρ3 (UU ρ3 (Rx (Rx (Rx Rs y w) z u) x v) σ s3) H3 σ z u := EVR.mv (Mv.less fun q k => k.imp (l3 q) id) (fun _ _ => rfl) hu
  have F3' : FSim X.K cid ρ3 (Rx (Rx (Rx Rs y w) z u) x v) H3 σ s3 := F3.weak l3
  obtain ⟨F4, r4, hm4, hh4⟩ := F3'.fz hv3 (fun q k y2 => by
    rcases y2 with (y2 | y2) | y2
    · exact Fs.dom q y2 (hx q k)
    · exact F1.dom q (.inr k) (hy q y2)
    · exact F1.dom q (.inr k) (nn e2.dom (hz q y2)))
  have m4 : Mv ρ3 ρ3 (UU ρ3 (Rx (Rx (Rx Rs y w) z u) x v) σ s3) (UU ρ3 (Rx (Rx Rs y w) z u) σ (fz s3 x).2) H3 H3 := Mv.less fun q k => k.imp .inl (hm4 q)
  obtain ⟨F5, r5, hm5, hh5⟩ := F4.fz (EVR.mv m4 (fun _ _ => rfl) hu3) (fun q k y2 => by
    rcases y2 with y2 | y2
    · exact F2.dom q (.inl (.inl y2)) (hz q k)
    · exact F2.dom q (.inr y2) (hz q k))
  have m5 : Mv ρ3 ρ3 (UU ρ3 (Rx (Rx Rs y w) z u) σ (fz s3 x).2) (UU ρ3 (Rx Rs y w) σ (fz (fz s3 x).2 z).2) H3 H3 := Mv.less fun q k => k.imp .inl (hm5 q)
  have hw5 := EVR.mv m5 (fun _ _ => rfl) (EVR.mv m4 (fun _ _ => rfl) hw3)
  have r45 : RV X.K cid ρ3 (UU ρ3 (Rx Rs y w) σ (fz (fz s3 x).2 z).2) H3 (fz s3 x).1 v := RV.mv m5 r4
  unfold upo at G3
  cases ec : cont (fz (fz s3 x).2 z).2 y with
  | none => rw [ec] at G3; exact G3.elim
  | some o =>
    rw [ec] at G3
    simp only at G3
    cases ef : putIx (fz (fz s3 x).2 z).1 (fz s3 x).1 o with
    | none => rw [ef] at G3; exact G3.elim
    | some ro =>
      obtain ⟨rr, o'⟩ := ro
      rw [ef] at G3
      simp only [bind_ok] at G3
      unfold putIx at ef
      split at ef
      · rename_i k xs ek
        rw [ek] at r5
        cases q : ixN xs.length k with
        | none => rw [q] at ef; cases ef
        | some j =>
          rw [q] at ef
          cases ef
          obtain ⟨p, rfl, ro, hmp, go⟩ := F5.ch hw5 ec (by intro z; cases z)
          obtain ⟨l, hp, rl⟩ := ro
          refine ⟨p, l, k, j, rfl, r5, hp, by rw [← rl.length]; exact q, ?_⟩
          obtain ⟨m6, hm6, F6⟩ := go (.lst (l.set j v)) (.lst (xs.set j (fz s3 x).1)) (by intro z; cases z)
          have F7 := F6 ⟨_, upd_same, RVs.set j (RVs.mv m6 rl) (RV.mv m6 r45)⟩
          refine GoodS.ok (a := Fl.nx) G3 ⟨⟨[], by simp⟩, fun q o n h => ?_, fun q h => ?_, fun q z => .inl (hm4 q (hm5 q (hm6 q z)))⟩ (F7.weak fun q z => .inl z)
          · rw [upd_ne (fun z => n (by rw [z]; exact hm4 p (hm5 p hmp)))]; exact h
          · by_cases z : q = p
            · rw [z, upd_same]; simp
            · rw [upd_ne z]; exact h
      · cases ef
end
end GI
set_option Elab.async false
set_option linter.all false
set_option maxRecDepth 100000
/-! GI.Lop: for, while, op=. -/
namespace GI
open PySem PySem.Spec PyProof.Rows L2
section
variable {K : PySem.W.Frag} {cid : Nat → Addr} {W : L2.WX} {σ σ1 σ' σr : St} {ρ ρ1 ρ' : List Addr} {Rs Rs1 Rs2 : AP} {H H1 H' : Hp} {s s1 : GS} {D : Ends}
theorem GoodS.moreR {r : R Fl} (hR : ∀ q, Rs q → Rs1 q) (h : GoodS K cid W ρ Rs H σ s r (PostS K cid Rs D)) : GoodS K cid W ρ Rs1 H σ s r (PostS K cid Rs1 D) := by
  cases r with
  | ok a s' =>
    intro σ' ρ' H' e F
    have := h σ' ρ' H' e (F.weak hR)
    cases a with
    | rt g => exact fun v rv => this v (RV.mv (Mv.less fun q z => z.imp (hR q) id) rv)
    | _ => exact this
  | exc c fs s' => exact fun σ' ρ' H' dd l y F e rr => h σ' ρ' H' dd l y (F.weak hR) e (RFs.mv (Mv.less fun q z => z.imp (hR q) id) rr)
  | bad => exact h
theorem tgt_ok {t : IT} {v : GV} {s : GS} : (∃ s', tgt t v s = .ok () s') ∨ tgt t v s = .bad := by
  cases t with
  | nm i => exact .inl ⟨_, rfl⟩
  | tp is =>
    show (∃ s', (match unpk (rdv s.h v) is.length with
      | some vs => R.ok () { s with σ := sets s.σ is vs }
      | none => .bad) = .ok () s') ∨ (match unpk (rdv s.h v) is.length with
      | some vs => R.ok () { s with σ := sets s.σ is vs }
      | none => .bad) = .bad
    cases unpk (rdv s.h v) is.length with
    | none => exact .inr rfl
    | some vs => exact .inl ⟨_, rfl⟩
end
section
variable {X : Cx} {cid : Nat → Addr} {W : L2.WX} {T : Tab} {F : CF} {a b c : IE} {ea eb ec : Expr} {pos : Pos}
open Classical in
theorem ss_for {tgi : IT} {it : II} {b : ISs} {tg iter : Expr} {body : List Stmt} (hp : PassesOwn (model X.prog X.w) X.A X.env X.xe) (hc : X.calm = true) (hi : PI X tg iter (tI X.K cid W T F it)) (hg : PG X tg (gG X.K cid tgi)) (hb : SB X cid W T F b body)
    (hs : ∀ x, foldedSetIterable iter X.env x = pure x) : SS X cid W T F (.for_ tgi it b) (.For tg iter body [] pos) := by
  refine (ps_for hp hc hi hg hb hs).imp fun D σ H ⟨ρ, Rs, s, Fs, G⟩ => ?_
  let step : GV → GS → GI.R Fl := fun v s2 => (tgt tgi v s2).bind fun _ s3 => evSs T F b s3
  have G' : GoodS X.K cid W ρ Rs H σ s ((evI T F it s).bind fun p s1 => forL (same p.2.1 p.2.2) step p.1 s1) (PostS X.K cid Rs D) := G
  refine ⟨ρ, Rs, s, Fs, (GoodS.bindE G').imp fun p s1 ρ1 H1 e1 G1 => ?_⟩
  intro v J hx F1 hv hns hrd ok
  obtain ⟨vs, x, val⟩ := p
  simp only at hx F1 hv hns hrd ok G1
  have G2 := GoodS.moreR (Rs1 := Rx Rs x v) (fun q z => .inl z) G1
  let In : Nat → St → Hp → Prop := fun i σ H => ∃ ρ2 s2, FSim X.K cid ρ2 (Rx Rs x v) H σ s2 ∧ EVR X.K cid ρ2 (UU ρ2 (Rx Rs x v) σ s2) H σ x v ∧ GoodS X.K cid W ρ2 (Rx Rs x v) H σ s2 (forL (same x val) step (vs.drop i) s2) (PostS X.K cid (Rx Rs x v) D)
  refine ⟨fun i m σ H => m = vs.length - i ∧ i ≤ vs.length ∧ In i σ H, ⟨vs.length, by simp, Nat.zero_le _, ρ1, s1, F1, hv, G2⟩, ?_⟩
  rintro i m σ2 H2 ⟨rfl, hi, ρ2, s2, F2, hv2, g⟩
  by_cases hlt : i < vs.length
  · have hd : vs.drop i = vs[i] :: vs.drop (i + 1) := List.drop_eq_getElem_cons hlt
    rw [hd] at g
    have g0 : GoodS X.K cid W ρ2 (Rx Rs x v) H2 σ2 s2 (if same x val s2 then (step vs[i] s2).bind fun f s1 => (match f with
      | .nx => forL (same x val) step (vs.drop (i + 1)) s1
      | .ct => forL (same x val) step (vs.drop (i + 1)) s1
      | .bk => .ok .nx s1
      | .rt v => .ok (.rt v) s1) else GI.R.bad) (PostS X.K cid (Rx Rs x v) D) := g
    split at g0
    · rename_i hsm
      have hvw := F2.rd hv2
      rw [show rd s2 x = val from hsm] at hvw
      obtain ⟨hgo, hy⟩ := ok.go ρ2 _ H2 i vs[i] hvw (List.getElem?_eq_getElem hlt)
      refine .inr ⟨hgo, In (i + 1), fun σ' H' p' => ⟨vs.length - (i + 1), by omega, rfl, hlt, p'⟩, fun xv H' y => ?_⟩
      obtain ⟨rfl, rv⟩ := hy xv H' y
      rcases tgt_ok (t := tgi) (v := vs[i]) (s := s2) with ⟨s3, et⟩ | et
      · simp only [step, et, bind_ok] at g0
        refine ⟨ρ2, _, s2, vs[i], s3, F2, rv, et, fun σ' hset F3 hm3 => ?_⟩
        have g1 := GoodS.from (Ext.sub (B := MM ρ2 σ2 s2) Ext.refl hm3) g0
        refine ⟨ρ2, _, s3, F3, (GoodS.bindS g1).imp fun f s4 σ4 ρ4 H4 e4 F4 _ g4 => ?_⟩
        have hv4 : EVR X.K cid ρ4 (UU ρ4 (Rx Rs x v) σ4 s4) H4 σ4 x v := by
          have h3 : EVR X.K cid ρ2 (UU ρ2 (Rx Rs x v) σ' s3) H' σ' x v := EVR.mv (Mv.less fun q z => z.imp id (hm3 q)) (fun _ _ => rfl) (EVR.nosl hns hv2)
          refine EVR.nosl (σ := σ') hns (EVR.mv (e4.mv (fun p z => .inr z) fun p z => ?_) (fun p z => ?_) h3)
          · rcases z with z | z
            · exact .inl (.inl z)
            · exact (e4.mb p z).imp .inr id
          · have r : Rx Rs x v p := .inr z
            cases q : H' p with
            | none => exact absurd q (F3.dom p r)
            | some o => rw [e4.keep p o (fun y => F3.apart y r) q]
        cases f with
        | nx => exact ⟨ρ4, s4, F4, hv4, g4⟩
        | ct => exact ⟨ρ4, s4, F4, hv4, g4⟩
        | bk => exact GoodS.val (W := W) (a := Fl.nx) g4 F4
        | rt u => exact GoodS.val (W := W) (a := Fl.rt u) g4 F4
      · simp only [step, et, bind_bad] at g0
        exact g0.elim
    · exact g0.elim
  · have e : i = vs.length := by omega
    subst e
    rw [List.drop_length] at g
    have g0 : GoodS X.K cid W ρ2 (Rx Rs x v) H2 σ2 s2 (if same x val s2 then GI.R.ok .nx s2 else GI.R.bad) (PostS X.K cid (Rx Rs x v) D) := g
    split at g0
    · rename_i hsm
      have hvw := F2.rd hv2
      rw [show rd s2 x = val from hsm] at hvw
      exact .inl ⟨ok.stop ρ2 _ H2 vs.length hvw (Nat.le_refl _), GoodS.val (a := Fl.nx) g0 F2⟩
    · exact g0.elim
theorem ss_whl {b : ISs} {body : List Stmt} (hp : PassesOwn (model X.prog X.w) X.A X.env X.xe) (hc : ST X cid W T F c ec) (hb : SB X cid W T F b body) : SS X cid W T F (.whl c b) (.While ec body [] pos) := by
  refine (ps_while hp hc hb).imp fun D σ H ⟨ρ, Rs, s, Fs, G⟩ => ?_
  have G' : GoodS X.K cid W ρ Rs H σ s (whlL (evT T F c) (evSs T F b) bigN s) (PostS X.K cid Rs D) := G
  refine ⟨fun m σ H => ∃ ρ s, FSim X.K cid ρ Rs H σ s ∧ GoodS X.K cid W ρ Rs H σ s (whlL (evT T F c) (evSs T F b) m s) (PostS X.K cid Rs D), ⟨bigN, ρ, s, Fs, G'⟩, ?_⟩
  rintro m σ1 H1 ⟨ρ1, s1, F1, G1⟩
  cases m with
  | zero => exact G1.elim
  | succ n =>
    have G2 : GoodS X.K cid W ρ1 Rs H1 σ1 s1 ((evT T F c s1).bind fun t s1 => if t then (evSs T F b s1).bind fun f s2 => (match f with
      | .nx => whlL (evT T F c) (evSs T F b) n s2
      | .ct => whlL (evT T F c) (evSs T F b) n s2
      | .bk => .ok .nx s2
      | .rt v => .ok (.rt v) s2) else .ok .nx s1) (PostS X.K cid Rs D) := G1
    refine ⟨ρ1, Rs, s1, F1, (GoodS.bindE G2).imp fun k s2 ρ2 H2 e2 G3 F2 => ?_⟩
    cases k with
    | false =>
      rw [if_neg Bool.false_ne_true] at G3 ⊢
      exact GoodS.val (a := Fl.nx) G3 F2
    | true =>
      rw [if_pos rfl] at G3 ⊢
      refine ⟨fun σ' H' => ∃ ρ s, FSim X.K cid ρ Rs H' σ' s ∧ GoodS X.K cid W ρ Rs H' σ' s (whlL (evT T F c) (evSs T F b) n s) (PostS X.K cid Rs D), fun σ' H' p => ⟨n, Nat.lt_succ_self n, p⟩, ρ2, Rs, s2, F2, (GoodS.bindS G3).imp fun f s4 σ4 ρ4 H4 e4 F4 _ g4 => ?_⟩
      cases f with
      | nx => exact ⟨ρ4, s4, F4, g4⟩
      | ct => exact ⟨ρ4, s4, F4, g4⟩
      | bk => exact GoodS.val (W := W) (a := Fl.nx) g4 F4
      | rt u => exact GoodS.val (W := W) (a := Fl.rt u) g4 F4
/-- name += e, of ints -/
theorem ss_augI {i : Nat} {x : Str} {op : Operator} {f : Int → Int → Int} {pos' : Pos} (hN : X.N.Nodup) (hi : X.N[i]? = some x) (hx : Loc X.env.scope x) (ha : SE X cid W T F a ea) (hf : X.fn x = true ∨ X.env.scope.names.lookup x = some .local) (ho : PIp X op (ipI f))
    (hop : ∀ u w r, binop op u w = some r → (∃ k, u = .int k) → ∃ k m, u = .int k ∧ w = .int m ∧ r = .g (.int (f k m))) : SS X cid W T F (.aug i op a) (.AugAssign (.Name x pos') op ea pos) := by
  refine (ps_aug hN hi hx ha ho hf).imp fun D σ H ⟨ρ, Rs, s, Fs, G⟩ => ?_
  have G' : GoodS X.K cid W ρ Rs H σ s (match s.σ[i]? with
    | some (.val (.int k)) => (evE T F a false s).bind fun x s1 => lift (binop op (.int k) (rd s1 x)) s1 fun y s2 => (match y with
      | .g v => .ok .nx { s2 with σ := s2.σ.set i (.val v) }
      | _ => .bad)
    | _ => .bad) (PostS X.K cid Rs D) := G
  split at G'
  · rename_i k es
    obtain ⟨v, ev, rv⟩ := Fs.sl i _ es
    cases (show v = .int k from rv)
    refine ⟨.int k, ev, ρ, Rs, s, Fs, (GoodS.bindE G').imp fun x s1 ρ1 H1 e1 G1 => ?_⟩
    intro w hx F1 hv
    obtain ⟨y, ey, G2⟩ := lift_goodS G1
    obtain ⟨k', m, e1, e2, rfl⟩ := hop _ _ _ ey ⟨k, rfl⟩
    cases e1
    have hw := F1.rd hv
    rw [e2] at hw
    have F1' : FSim X.K cid ρ1 Rs H1 σ s1 := F1.weak fun q z => .inl z
    obtain ⟨F2, hm⟩ := F1'.setv (i := i) (g := .int (f k m)) (v := .int (f k m)) rfl
    exact ⟨k, m, rfl, hw, GoodS.ok (a := Fl.nx) G2 (Ext.sub (B := MM ρ1 σ s1) Ext.refl hm) F2⟩
  · exact G'.elim
end
end GI
set_option Elab.async false
set_option linter.all false
set_option maxRecDepth 100000
/-! GI.Bif: built-in functions and methods as they stand in the text; isinstance. -/
namespace GI
open PySem PySem.Spec PyProof.Rows L2
/-! ### isinstance -/
def tyBase : List String := ["int", "str", "bool", "list", "tuple", "dict"]
def tyAll : List String := ["NoneType", "bool", "int", "str", "list", "tuple", "dict"]
theorem kit_tab : (tyAll.all fun a => tyBase.all fun b => decide (kitB a b = some (tyB a b))) = true := by decide +kernel
theorem kit_at {K : PySem.W.Frag} {a b : String} (ha : a ∈ tyAll) (hb : b ∈ tyBase) : PySem.W.kitOne K (.type a) (.type b) = some (tyB a b) := by
  have := kit_tab
  rw [List.all_eq_true] at this
  have := this a ha
  rw [List.all_eq_true] at this
  exact kit_ty (of_decide_eq_true (this b hb))
theorem boot_tab : (tyBase.all fun b => decide (bootBuiltins (Str.ofString b) = some (.type b))) = true := by decide +kernel
theorem boot_at {b : String} (hb : b ∈ tyBase) : bootBuiltins (Str.ofString b) = some (.type b) := by
  have := boot_tab
  rw [List.all_eq_true] at this
  exact of_decide_eq_true (this b hb)
theorem gvTy_mem {g : GV} {a : String} (h : gvTy g = some a) : a ∈ tyAll := by
  cases g <;> simp only [gvTy] at h <;> first | (cases h; decide) | cases h
theorem VW.ty {K : PySem.W.Frag} {cid : Nat → Addr} {ρ : List Addr} {U : AP} {H : Hp} {g : GV} {v : V} {a : String} (h : VW K cid ρ U H g v) (e : gvTy g = some a) : TyX K H v (.type a) := by
  cases g with
  | non => cases e; cases (show v = _ from h); exact .base .non
  | bl b => cases e; cases (show v = _ from h); exact .base (.bl b)
  | int b => cases e; cases (show v = _ from h); exact .base (.int b)
  | str b => cases e; cases (show v = _ from h); exact .base (.str b)
  | lst xs => cases e; obtain ⟨p, vs, rfl, hp, r⟩ := h; exact .base (.lst hp)
  | tup xs =>
    cases e
    obtain ⟨p, vs, rfl, hp, r⟩ := h
    rcases hp with ⟨_, hp⟩ | ⟨o, its, n, hk, hc, _⟩
    · exact .base (.tup hp)
    · exact .kTuple hk hc
  | scr ns =>
    cases e
    obtain ⟨p, rfl, hp⟩ := h
    rcases hp with ⟨_, o, hp⟩ | ⟨o, its, n, hk, hc, _⟩
    · exact .base (.frz hp)
    · exact .kList hk hc
  | dct kvs =>
    cases e
    obtain ⟨p, rfl, hp⟩ := h
    rcases hp with ⟨l, hp, _⟩ | ⟨l, hp, _⟩
    · exact .base (.dK hp)
    · exact .base (.dT hp)
  | _ => cases e
/-- the classes that stand as a tuple -/
inductive STys (X : Cx) : List Ty → List Expr → Prop where
  | nil : STys X [] []
  | cons {n : String} {p : Pos} {ts : List Ty} {es : List Expr} (hb : n ∈ tyBase) (hg : Gl X (Str.ofString n)) (hm : X.mg (Str.ofString n) = none) (r : STys X ts es) : STys X (.bt n :: ts) (.Name (Str.ofString n) p :: es)
def tyVs : List Ty → List V
  | [] => []
  | .bt n :: r => .ty n :: tyVs r
  | .cl _ :: r => tyVs r
def tyUs : List Ty → List Value
  | [] => []
  | .bt n :: r => .type n :: tyUs r
  | .cl _ :: r => tyUs r
def tTys : List Ty → TA
  | [] => tNil
  | .bt n :: r => tCons (tC (.ty n)) (tTys r)
  | .cl _ :: r => tTys r
theorem tTys_run {ts : List Ty} {σ : St} {H : Hp} {Q : List V → Hp → Prop} (h : Q (tyVs ts) H) : tTys ts σ H Q := by
  induction ts generalizing Q with
  | nil => exact h
  | cons t r ih => cases t with
    | bt n => exact ih (Q := fun xs H2 => Q (.ty n :: xs) H2) h
    | cl c => exact ih h
theorem ty_name : (tyBase.all fun b => decide (Str.ofString b ≠ ("__name__" : Str)) && ((Str.ofString b == ("__debug__" : Str)) == false)) = true := by decide +kernel
theorem ty_name1 {b : String} (h : b ∈ tyBase) : Str.ofString b ≠ ("__name__" : Str) := by
  have := ty_name
  rw [List.all_eq_true] at this
  have := this b h
  rw [Bool.and_eq_true] at this
  exact of_decide_eq_true this.1
theorem ty_name2 {b : String} (h : b ∈ tyBase) : (Str.ofString b == ("__debug__" : Str)) = false := by
  have := ty_name
  rw [List.all_eq_true] at this
  have := this b h
  rw [Bool.and_eq_true] at this
  exact beq_iff_eq.mp this.2
theorem stys_pa {X : Cx} {ts : List Ty} {es : List Expr} (h : STys X ts es) : PA X es (tTys ts) ∧ Paired ClsV (tyVs ts) (tyUs ts) ∧ (∀ (a : String), a ∈ tyAll → PySem.W.kitAny X.K (.type a) (tyUs ts) = some (tyAny a ts)) ∧ (tyVs ts).length = es.length := by
  induction h with
  | nil => exact ⟨pa_nil, .nil, fun a _ => rfl, rfl⟩
  | @cons n p ts es hb hg hm r ih =>
    refine ⟨pa_cons (pe_bltn (v := .ty n) hg hm (boot_at hb) rfl (ty_name1 hb) (ty_name2 hb)) ih.1 rfl, .cons (.ty n) ih.2.1, fun a ha => ?_, by show (tyVs ts).length + 1 = _; rw [ih.2.2.2]; rfl⟩
    refine kitAny_cons (b := tyB a n) (kit_at ha hb) (fun z => ?_) (fun z => ?_)
    · show _ = some (tyB a n || tyAny a ts)
      rw [z, ih.2.2.1 a ha]; rfl
    · show (tyB a n || tyAny a ts) = true
      rw [z]; rfl
theorem boot_isi : bootBuiltins "isinstance" = some (.builtin "isinstance") := by decide +kernel
section
variable {X : Cx} {cid : Nat → Addr} {W : L2.WX} {T : Tab} {F : CF} {a b c : IE} {ea eb ec : Expr} {pos : Pos}
theorem s_isi1 {n : String} {p p2 : Pos} (ha : SE X cid W T F a ea) (hs : noStar ea = true) (hg : Gl X "isinstance") (hm : X.mg "isinstance" = none) (hb : n ∈ tyBase) (hgn : Gl X (Str.ofString n)) (hmn : X.mg (Str.ofString n) = none) :
    SE X cid W T F (.isi a [.bt n]) (.Call (.Name "isinstance" p) [ea, .Name (Str.ofString n) p2] [] pos) := by
  refine (pe_callB call_isi hg hm boot_isi (pa_cons ha (pa_cons (pe_bltn (v := .ty n) hgn hmn (boot_at hb) rfl (ty_name1 hb) (ty_name2 hb)) pa_nil rfl) (star_each hs)) (by decide) (by decide) (star_each hs) rfl).imp fun σ H Q ⟨ρ, Rs, s, Fs, G⟩ => ?_
  have G' : Good X.K cid W σ ρ Rs H s ((evE T F a false s).bind fun x s1 => lift (isiF T s1 (rd s1 x) [.bt n]) s1 fun b => .ok (.g (.bl b))) (PostE X.K cid σ Rs Q) := G
  refine ⟨ρ, Rs, s, Fs, (Good.bind up_E G').imp fun x s1 ρ1 H1 e1 G1 => ?_⟩
  intro v hx F1 hv
  obtain ⟨k, ek, G2⟩ := lift_good G1
  have hw := F1.rd hv
  unfold isiF at ek
  cases et : gvTy (rd s1 x) with
  | none => rw [et] at ek; cases ek
  | some t =>
    rw [et] at ek
    have ek' : (tyB t n || false) = k := Option.some.inj ek
    rw [Bool.or_false] at ek'
    exact ⟨v, .ty n, .type t, .type n, k, rfl, .ty n, hw.ty et, by rw [← ek']; exact kit_at (gvTy_mem et) hb, G2.val (F1.weak fun q z => .inl z) rfl⟩
theorem s_isiT {ts : List Ty} {es : List Expr} {p pt : Pos} {k : Nat} (ha : SE X cid W T F a ea) (hs : noStar ea = true) (hg : Gl X "isinstance") (hm : X.mg "isinstance" = none) (ht : STys X ts es) (hz : es.length ≤ sizeLine) :
    SE X cid W T F (.isi a ts) (.Call (.Name "isinstance" p) [ea, .Tuple es k pt] [] pos) := by
  obtain ⟨h1, h2, h3, h4⟩ := stys_pa ht
  refine (pe_callB call_isiT hg hm boot_isi (pa_cons ha (pa_cons (pe_tup h1) pa_nil rfl) (star_each hs)) (by decide) (by decide) (star_each hs) rfl).imp fun σ H Q ⟨ρ, Rs, s, Fs, G⟩ => ?_
  have G' : Good X.K cid W σ ρ Rs H s ((evE T F a false s).bind fun x s1 => lift (isiF T s1 (rd s1 x) ts) s1 fun b => .ok (.g (.bl b))) (PostE X.K cid σ Rs Q) := G
  refine ⟨ρ, Rs, s, Fs, (Good.bind up_E G').imp fun x s1 ρ1 H1 e1 G1 => ?_⟩
  intro v hx F1 hv
  obtain ⟨b, eb, G2⟩ := lift_good G1
  unfold isiF at eb
  cases et : gvTy (rd s1 x) with
  | none => rw [et] at eb; cases eb
  | some t =>
    rw [et] at eb
    cases eb
    refine tTys_run (show (tyVs ts).length ≤ sizeLine ∧ ∀ p, H1 p = none → _ from ⟨by rw [h4]; exact hz, fun tp hp => ?_⟩)
    obtain ⟨F2, m2, e2⟩ := F1.fresh (u := .tup (tyVs ts)) hp
    have hv2 : EVR X.K cid ρ1 (UU ρ1 (fun q => Rx Rs x v q ∨ q = tp) σ s1) (upd H1 tp (.tup (tyVs ts))) σ x v := EVR.mv m2 (fun q z => by
      rw [upd_ne (fun y => F1.dom q (.inr z) (by rw [y]; exact hp))]) hv
    have hw := F2.rd hv2
    exact ⟨v, tp, tyVs ts, .type t, tyUs ts, tyAny t ts, rfl, upd_same, h2, hw.ty et, h3 t (gvTy_mem et), (Good.from (s1 := s1) up_E e2 G2).val (F2.weak fun q z => .inl (.inl z)) rfl⟩
/-! ### built-in functions -/
def Bi.nm : Bi → String
  | .len => "len" | .abs => "abs" | .int => "int" | .repr => "repr" | .sum => "sum" | .all => "all" | .any => "any" | .max => "max" | .min => "min"
  | .sorted => "sorted" | .list => "list" | .tuple => "tuple" | .set => "set" | .str => "str"
def Bi.done : Bi → Bool
  | .sorted => false | .set => false | .str => false | _ => true
theorem s_bi {n : Bi} {e : Expr} {es : List Expr} {ies : IEs} {p : Pos} (hd : n.done = true) (hc : X.calm = true) (hu : X.A.units + 64 < cLine) (hgu : X.A.guards = some []) (hg : Gl X (Str.ofString n.nm)) (hm : X.mg (Str.ofString n.nm) = none) (ha : SL X cid W T F ies (e :: es)) (hs : noStars (e :: es) = true) :
    SE X cid W T F (.bi n ies) (.Call (.Name (Str.ofString n.nm) p) (e :: es) [] pos) := by
  have hns : noStar e = true ∧ noStars es = true := by
    have h' : (noStar e && noStars es) = true := hs
    rwa [Bool.and_eq_true] at h'
  have he := star_each (es := es) (env := X.env) hns.1
  have hpl : (backTo pos (starEach es X.env)).any (·.1) = false := star_any hns.2
  cases n with
  | len => exact (pe_callB (bi_len (cid := cid)) hg hm (by decide +kernel) ha (by decide +kernel) (by decide +kernel) he hpl).imp fun σ H Q h => bi_vals h
  | abs => exact (pe_callB (bi_abs (cid := cid)) hg hm (by decide +kernel) ha (by decide +kernel) (by decide +kernel) he hpl).imp fun σ H Q h => bi_vals h
  | int => exact (pe_callTy (bi_int (cid := cid)) hg hm (by decide +kernel) ha (by decide +kernel) (by decide +kernel) he hpl).imp fun σ H Q h => bi_vals h
  | repr => exact (pe_callB (bi_repr (cid := cid) hu hgu) hg hm (by decide +kernel) ha (by decide +kernel) (by decide +kernel) he hpl).imp fun σ H Q h => bi_vals h
  | sum => exact (pe_callB (bi_sum (cid := cid) hc) hg hm (by decide +kernel) ha (by decide +kernel) (by decide +kernel) he hpl).imp fun σ H Q h => bi_vals h
  | all => exact (pe_callB (bi_all (cid := cid) hc) hg hm (by decide +kernel) ha (by decide +kernel) (by decide +kernel) he hpl).imp fun σ H Q h => bi_vals h
  | any => exact (pe_callB (bi_any (cid := cid) hc) hg hm (by decide +kernel) ha (by decide +kernel) (by decide +kernel) he hpl).imp fun σ H Q h => bi_vals h
  | max => exact (pe_callB (bi_max (cid := cid) hc) hg hm (by decide +kernel) ha (by decide +kernel) (by decide +kernel) he hpl).imp fun σ H Q h => bi_vals h
  | min => exact (pe_callB (bi_min (cid := cid) hc) hg hm (by decide +kernel) ha (by decide +kernel) (by decide +kernel) he hpl).imp fun σ H Q h => bi_vals h
  | list => exact (pe_callTy (bi_list (cid := cid)) hg hm (by decide +kernel) ha (by decide +kernel) (by decide +kernel) he hpl).imp fun σ H Q h => bi_vals h
  | tuple => exact (pe_callTy (bi_tuple (cid := cid)) hg hm (by decide +kernel) ha (by decide +kernel) (by decide +kernel) he hpl).imp fun σ H Q h => bi_vals h
  | sorted => cases hd
  | set => cases hd
  | str => cases hd
/-! ### methods of the built-in types -/
def Bm.nm : Bm → String
  | .append => "append" | .pop => "pop" | .join => "join"
theorem starEach_all {env : Env} : ∀ {es : List Expr}, noStars es = true → (backTo pos (starEach es env)).all (fun x => !x.1) = true
  | [], _ => rfl
  | e :: r, h => by
    have h' : (noStar e && noStars r) = true := h
    rw [Bool.and_eq_true] at h'
    rw [star_each h'.1]
    show (true && (backTo pos (starEach r env)).all (fun x => !x.1)) = true
    rw [starEach_all h'.2]; rfl
theorem s_bm0 {m : Bm} {apos : Pos} (ho : SE X cid W T F a ea) (hb : attributeBase ea (Str.ofString m.nm) X.env (eval ea X.env) = eval ea X.env) (hl : (apos.endLine == pos.line) = true) :
    SE X cid W T F (.bm a m .nil) (.Call (.Attribute ea (Str.ofString m.nm) apos) [] [] pos) := by
  have key : ∀ {σ : St} {H : Hp} {Q : VK}, tE X.K cid W T F (.bm a m .nil) σ H Q → tBM0 X.K m.ty (rBm X.K cid m) (tE X.K cid W T F a) σ H Q := fun {σ H Q} h => by
    obtain ⟨ρ, Rs, s, Fs, G⟩ := bm_vals h
    refine ⟨ρ, Rs, s, Fs, G.imp fun x s1 ρ1 H1 e1 g v hx F1 hv => ?_⟩
    obtain ⟨h1, ρ2, R2, s2, F2, G2⟩ := g v hx F1 hv
    exact ⟨h1, G2 ρ2 H1 Ext.refl [] (fun _ z => z.elim) True.intro (F2.weak fun _ z => z.elim id fun z => z.elim) True.intro⟩
  cases m with
  | append => exact (pe_bm0 PySem.F.plainAttrs_list PySem.F.slot_list_append PySem.F.type_list_append (mt_append_G (cid := cid)) ho hb hl).imp fun σ H Q h => key h
  | pop => exact (pe_bm0 PySem.F.plainAttrs_list PySem.F.slot_list_pop PySem.F.type_list_pop (mt_pop_G (cid := cid)) ho hb hl).imp fun σ H Q h => key h
  | join => exact (pe_bm0 PySem.F.plainAttrs_str PySem.F.slot_str_join PySem.F.type_str_join (mt_join_G (cid := cid)) ho hb hl).imp fun σ H Q h => key h
theorem s_bm {m : Bm} {apos : Pos} {e : Expr} {es : List Expr} {ies : IEs} (ho : SE X cid W T F a ea) (ha : SL X cid W T F ies (e :: es)) (hs : noStars (e :: es) = true) (hn : (e :: es).length < 30) (hb : attributeBase ea (Str.ofString m.nm) X.env (eval ea X.env) = eval ea X.env) (hl : (apos.endLine == pos.line) = true) :
    SE X cid W T F (.bm a m ies) (.Call (.Attribute ea (Str.ofString m.nm) apos) (e :: es) [] pos) := by
  have hns : noStar e = true ∧ noStars es = true := by
    have h' : (noStar e && noStars es) = true := hs
    rwa [Bool.and_eq_true] at h'
  have he := star_each (es := es) (env := X.env) hns.1
  have hpl : (backTo pos (starEach es X.env)).any (·.1) = false := star_any hns.2
  have hfew : ((backTo pos (starEach (e :: es) X.env)).all (fun x => !x.1) && (backToKw pos (keywordEach [] X.env)).all (fun x => x.1.isSome)
      && decide ((e :: es).length + ([] : List Keyword).length + (if ([] : List Keyword).isEmpty then 0 else 1) < 30)) = true := by
    rw [starEach_all hs, Bool.true_and]
    show (true && decide ((e :: es).length + 0 + 0 < 30)) = true
    rw [Bool.true_and]
    exact decide_eq_true hn
  cases m with
  | append => exact (pe_bm PySem.F.plainAttrs_list PySem.F.slot_list_append PySem.F.type_list_append (mt_append_G (cid := cid)) ho ha hb hfew hl he hpl).imp fun σ H Q h => bm_vals h
  | pop => exact (pe_bm PySem.F.plainAttrs_list PySem.F.slot_list_pop PySem.F.type_list_pop (mt_pop_G (cid := cid)) ho ha hb hfew hl he hpl).imp fun σ H Q h => bm_vals h
  | join => exact (pe_bm PySem.F.plainAttrs_str PySem.F.slot_str_join PySem.F.type_str_join (mt_join_G (cid := cid)) ho ha hb hfew hl he hpl).imp fun σ H Q h => bm_vals h
end
end GI
set_option Elab.async false
set_option linter.all false
set_option maxRecDepth 100000
/-! GI.Chk: the inner language against the text, decided. -/
namespace GI
open PySem PySem.Spec PyProof.Rows L2
/-- the module's names -/
structure Nm where
  fns : List (Nat × Str)
  cls : List (Nat × Str)
  bls : List Str
  cns : List (Nat × Str)
def visC (sc : Scope) (x : Str) : Bool := match sc.names.lookup x with
  | some .local => true
  | some .cell => true
  | some .free => true
  | _ => false
def locC (sc : Scope) (fn : Str → Bool) (x : Str) : Bool := match sc.names.lookup x with
  | some .local => true
  | some .cell => fn x
  | _ => false
def glC (sc : Scope) (x : Str) : Bool := match sc.names.lookup x with
  | some .globalImplicit => true
  | _ => false
def noSup : Expr → Bool
  | .Call _ _ _ _ => false
  | _ => true
def noSlice : Expr → Bool
  | .Slice _ _ _ _ => false
  | _ => true
def noSet : Expr → Bool
  | .Set _ _ _ => false
  | _ => true
def okUn : UnaryOp → Bool
  | .USub => true
  | .Invert => true
  | _ => false
def ckTys (M : Nm) (sc : Scope) : List Ty → List Expr → Bool
  | [], [] => true
  | .bt n :: ts, .Name x _ :: es => decide (x = Str.ofString n) && tyBase.contains n && glC sc x && M.bls.contains x && ckTys M sc ts es
  | _, _ => false
def ckConst : GV → Const → Bool
  | .non, .none => true
  | .bl b, .bool c => b == c
  | .int b, .int c => b == c
  | .str b, .str c => decide (b = c)
  | _, _ => false
section
variable (M : Nm) (N : List Str)
def ckNms (sc : Scope) (fn : Str → Bool) : List Nat → List Expr → Bool
  | [], [] => true
  | i :: is, .Name x _ :: es => decide (N[i]? = some x) && locC sc fn x && ckNms sc fn is es
  | _, _ => false
def ckG (sc : Scope) (fn : Str → Bool) : IT → Expr → Bool
  | .nm i, .Name x _ => decide (N[i]? = some x) && locC sc fn x
  | .tp is, .Tuple es _ _ => ckNms N sc fn is es
  | _, _ => false
def ownN (own : List Nat) : List (Str × Nat) := own.map fun i => ((N[i]?).getD Str.empty, i)
mutual
def ckE : IE → Scope → (Str → Bool) → Expr → Bool
  | .var i => fun sc fn e => match e with
    | .Name x _ => decide (N[i]? = some x) && visC sc x && !(x == ("__debug__" : Str)) && !(x == ("__classdict__" : Str))
    | _ => false
  | .con v => fun sc fn e => match e with
    | .Constant c _ _ => ckConst v c
    | _ => false
  | .glb i => fun sc fn e => match e with
    | .Name x _ => decide (M.cns.lookup i = some x) && glC sc x && !(x == ("__debug__" : Str))
    | _ => false
  | .bin op a b => fun sc fn e => match e with
    | .BinOp l op' r _ => decide (op = op') && ckE a sc fn l && ckE b sc fn r
    | _ => false
  | .un op a => fun sc fn e => match e with
    | .UnaryOp op' x _ => decide (op = op') && okUn op && ckE a sc fn x
    | _ => false
  | .not_ a => fun sc fn e => match e with
    | .UnaryOp op' x _ => decide (op' = .Not) && ckE a sc fn x
    | _ => false
  | .and_ a b => fun sc fn e => match e with
    | .BoolOp .And [x, y] _ => ckE a sc fn x && ckE b sc fn y
    | .BoolOp .And (x :: y :: z :: r) p => ckE a sc fn x && ckE b sc fn (.BoolOp .And (y :: z :: r) p)
    | _ => false
  | .or_ a b => fun sc fn e => match e with
    | .BoolOp .Or [x, y] _ => ckE a sc fn x && ckE b sc fn y
    | .BoolOp .Or (x :: y :: z :: r) p => ckE a sc fn x && ckE b sc fn (.BoolOp .Or (y :: z :: r) p)
    | _ => false
  | .ife c a b => fun sc fn e => match e with
    | .IfExp t x y _ => ckE c sc fn t && ckE a sc fn x && ckE b sc fn y
    | _ => false
  | .cmp op a b => fun sc fn e => match e with
    | .Compare l [op'] [r] _ => decide (op = op') && !behindInMarks op r && ckE a sc fn l && ckE b sc fn r
    | _ => false
  | .chn op op2 a b c => fun sc fn e => match e with
    | .Compare l [o1, o2] [x, y] _ => decide (op = o1) && decide (op2 = o2) && !lastMarks [op, op2] [x, y] && ckE a sc fn l && ckE b sc fn x && ckE c sc fn y
    | _ => false
  | .ix a b => fun sc fn e => match e with
    | .Subscript v s _ => noSlice s && ckE a sc fn v && ckE b sc fn s
    | _ => false
  | .sl a lo hi => fun sc fn e => match e with
    | .Subscript v (.Slice l h none _) _ => ckE a sc fn v && ckO lo sc fn l && ckO hi sc fn h
    | _ => false
  | .att a f => fun sc fn e => match e with
    | .Attribute v x _ => decide (x = Str.ofString f) && noSup v && ckE a sc fn v
    | _ => false
  | .lst _ es => fun sc fn e => match e with
    | .List ees _ => noStars ees && ckEs es sc fn ees
    | _ => false
  | .tup es => fun sc fn e => match e with
    | .Tuple ees _ _ => noStars ees && ckEs es sc fn ees
    | _ => false
  | .lc _ elt tg it c own => fun sc fn e => match e with
    | .ListComp eelt [⟨t, iter, ifs, 0⟩] scope _ => blkC N sc scope (ownN N own) && tg.ix.all (own.contains ·) && noSet iter && ckI it sc fn iter &&
        ckG N (relS scope sc) (fun x => scope.names.lookup x == some .cell) tg t && ckC c (relS scope sc) (fun x => scope.names.lookup x == some .cell) ifs && ckE elt (relS scope sc) (fun x => scope.names.lookup x == some .cell) eelt
    | _ => false
  | .call f es ks kes => fun sc fn e => match e with
    | .Call (.Name x _) ees kws _ => decide (M.fns.lookup f = some x) && glC sc x && !(x == ("__debug__" : Str)) && noStars ees && ckEs es sc fn ees && kwNames kws ks && ckKs kes sc fn kws
    | _ => false
  | .make c es ks kes => fun sc fn e => match e with
    | .Call (.Name x _) ees kws _ => decide (M.cls.lookup c = some x) && glC sc x && !(x == ("__debug__" : Str)) && noStars ees && ckEs es sc fn ees && kwNames kws ks && ckKs kes sc fn kws
    | _ => false
  | .meth o m es ks kes => fun sc fn e => match e with
    | .Call (.Attribute eo x apos) ees kws pos => decide (x = Str.ofString m) && noSup eo && (apos.endLine == pos.line) && decide (ees.length + kws.length + 1 < 30) && ckE o sc fn eo && noStars ees && ckEs es sc fn ees && kwNames kws ks && ckKs kes sc fn kws
    | _ => false
  | .bi n es => fun sc fn e => match e with
    | .Call (.Name x _) (a :: r) [] _ => decide (x = Str.ofString n.nm) && n.done && glC sc x && M.bls.contains x && noStars (a :: r) && ckEs es sc fn (a :: r)
    | _ => false
  | .bm o m es => fun sc fn e => match e with
    | .Call (.Attribute eo x apos) ees [] pos => decide (x = Str.ofString m.nm) && noSup eo && (apos.endLine == pos.line) && decide (ees.length < 30) && ckE o sc fn eo && noStars ees && ckEs es sc fn ees
    | _ => false
  | .isi a ts => fun sc fn e => match e with
    | .Call (.Name x _) [ea, .Tuple tes _ _] [] _ => decide (x = ("isinstance" : Str)) && glC sc x && M.bls.contains x && noStar ea && ckE a sc fn ea && ckTys M sc ts tes && decide (tes.length < 1000)
    | .Call (.Name x _) [ea, et] [] _ => decide (x = ("isinstance" : Str)) && glC sc x && M.bls.contains x && noStar ea && ckE a sc fn ea && ckTys M sc ts [et] && decide (ts.length = 1)
    | _ => false
def ckEs : IEs → Scope → (Str → Bool) → List Expr → Bool
  | .nil => fun sc fn es => match es with
    | [] => true
    | _ => false
  | .cons a r => fun sc fn es => match es with
    | x :: xs => ckE a sc fn x && ckEs r sc fn xs
    | _ => false
def ckKs : IEs → Scope → (Str → Bool) → List Keyword → Bool
  | .nil => fun sc fn es => match es with
    | [] => true
    | _ => false
  | .cons a r => fun sc fn es => match es with
    | ⟨_, x, _⟩ :: xs => ckE a sc fn x && ckKs r sc fn xs
    | _ => false
def ckO : IEo → Scope → (Str → Bool) → Option Expr → Bool
  | .no => fun sc fn e => match e with
    | none => true
    | _ => false
  | .so a => fun sc fn e => match e with
    | some x => ckE a sc fn x
    | _ => false
def ckC : IEo → Scope → (Str → Bool) → List Expr → Bool
  | .no => fun sc fn e => match e with
    | [] => true
    | _ => false
  | .so a => fun sc fn e => match e with
    | [x] => ckE a sc fn x
    | _ => false
def ckI : II → Scope → (Str → Bool) → Expr → Bool
  | .seq a => fun sc fn e => ckE a sc fn e
  | .rng (.cons a .nil) => fun sc fn e => match e with
    | .Call (.Name x _) [y] [] _ => decide (x = ("range" : Str)) && glC sc x && M.bls.contains x && noStar y && ckE a sc fn y
    | _ => false
  | .rng (.cons a (.cons b .nil)) => fun sc fn e => match e with
    | .Call (.Name x _) [y, z] [] _ => decide (x = ("range" : Str)) && glC sc x && M.bls.contains x && noStar y && noStar z && ckE a sc fn y && ckE b sc fn z
    | _ => false
  | _ => fun _ _ _ => false
end
end
/-- the context of the text, and what the module has -/
structure Ctx (M : Nm) (N : List Str) (sc : Scope) (fn : Str → Bool) (X : Cx) (cid fa : Nat → Addr) (T : Tab) (F : CF) (k : Nat) (W : L2.WX) : Prop where
  hN : X.N = N
  nd : N.Nodup
  hsc : X.env.scope = sc
  kd : sc.kind = .function
  fn : ∀ x, fn x = true → X.fn x = true
  calm : X.calm = true
  un : X.A.units + 65 < cLine
  gu : X.A.guards = some []
  rm : Room (k + 1) X.A
  to : TabOk X.prog X.w X.K X.mg X.base cid fa T F k
  tk : Takes X W
  fns : ∀ f x, M.fns.lookup f = some x → ∃ d, T.fns f = some d ∧ X.mg x = some (.ref (fa f))
  cls : ∀ c x, M.cls.lookup c = some x → (T.cls c).isSome = true ∧ X.mg x = some (.ref (cid c)) ∧ PySem.W.keepIn X.K (.ref (cid c)) = true
  bls : ∀ x, M.bls.contains x = true → X.mg x = none
  cns : ∀ i x, M.cns.lookup i = some x → ∃ u v, X.mg x = some u ∧ RelV v u ∧ ConV X.K cid (T.con i) v
section
variable {M : Nm} {N : List Str} {sc : Scope} {fn : Str → Bool} {X : Cx} {cid fa : Nat → Addr} {T : Tab} {F : CF} {k : Nat} {W : L2.WX}
theorem Ctx.blk (c : Ctx M N sc fn X cid fa T F k W) {scope : Scope} (hk : scope.kind = .function) (s : Shared) (H : Hp) (C : Addr) (cl : List (Str × Addr)) (fp : List Addr) :
    Ctx M N (relS scope sc) (fun x => scope.names.lookup x == some .cell) (X.blk s H scope (compEnvC scope cl C X.env) fp) cid fa T F k W0 :=
  ⟨c.hN, c.nd, by rw [← c.hsc]; rfl, hk, fun _ h => h, c.calm, c.un, c.gu, c.rm, c.to, takes_none5, c.fns, c.cls, c.bls, c.cns⟩
theorem vis_of {x : Str} (h : visC sc x = true) : Vis sc x := by
  unfold visC at h
  split at h <;> first | exact .inl (by assumption) | exact .inr (.inl (by assumption)) | exact .inr (.inr (by assumption)) | cases h
theorem loc_of (c : Ctx M N sc fn X cid fa T F k W) {x : Str} (h : locC sc fn x = true) : Loc X.env.scope x ∧ (X.fn x = true ∨ X.env.scope.names.lookup x = some .local) := by
  rw [c.hsc]
  unfold locC at h
  split at h
  · rename_i e; exact ⟨.inl e, .inr e⟩
  · rename_i e; exact ⟨.inr e, .inl (c.fn x h)⟩
  · cases h
theorem gl_of (c : Ctx M N sc fn X cid fa T F k W) {x : Str} (h : glC sc x = true) : Gl X x := by
  unfold glC at h
  show X.env.scope.names.lookup x = some .globalImplicit
  rw [c.hsc]
  split at h
  · assumption
  · cases h
theorem sup_ok {e : Expr} {f : Str} {env : Env} {w : Sem Value} (h : noSup e = true) : attributeBase e f env w = w := by
  cases e <;> first | rfl | cases h
theorem set_ok {e : Expr} {env : Env} {x : Value} (h : noSet e = true) : foldedSetIterable e env x = pure x := by
  cases e <;> first | rfl | cases h
theorem slice_ok {e : Expr} (h : noSlice e = true) : PlainIx e := by
  cases e <;> first | (intro _ _; rfl) | cases h
theorem stys_of (c : Ctx M N sc fn X cid fa T F k W) : ∀ {ts : List Ty} {es : List Expr}, ckTys M sc ts es = true → STys X ts es
  | [], [], _ => .nil
  | [], _ :: _, h => by cases h
  | .cl _ :: _, es, h => by cases es <;> cases h
  | .bt n :: ts, [], h => by cases h
  | .bt n :: ts, e :: es, h => by
    cases e with
    | Name x p =>
      have h' : (decide (x = Str.ofString n) && tyBase.contains n && glC sc x && M.bls.contains x && ckTys M sc ts es) = true := h
      simp only [Bool.and_eq_true] at h'
      obtain ⟨⟨⟨⟨h1, h2⟩, h3⟩, h4⟩, h5⟩ := h'
      have e := of_decide_eq_true h1
      subst e
      exact .cons (by simpa using h2) (gl_of c h3) (c.bls _ h4) (stys_of c h5)
    | _ => cases h
theorem nms_of (c : Ctx M N sc fn X cid fa T F k W) : ∀ {is : List Nat} {es : List Expr}, ckNms N sc fn is es = true → SNm X is es
  | [], [], _ => .nil
  | [], _ :: _, h => by cases h
  | _ :: _, [], h => by cases h
  | i :: is, e :: es, h => by
    cases e with
    | Name x p =>
      have h' : (decide (N[i]? = some x) && locC sc fn x && ckNms N sc fn is es) = true := h
      simp only [Bool.and_eq_true] at h'
      obtain ⟨⟨h1, h2⟩, h3⟩ := h'
      exact .cons (by rw [c.hN]; exact of_decide_eq_true h1) (loc_of c h2).1 (loc_of c h2).2 (nms_of c h3)
    | _ => cases h
theorem g_of (c : Ctx M N sc fn X cid fa T F k W) {t : IT} {e : Expr} (h : ckG N sc fn t e = true) : PG X e (gG X.K cid t) := by
  cases t with
  | nm i =>
    cases e with
    | Name x p =>
      have h' : (decide (N[i]? = some x) && locC sc fn x) = true := h
      rw [Bool.and_eq_true] at h'
      exact sg_nm (by rw [c.hN]; exact c.nd) (by rw [c.hN]; exact of_decide_eq_true h'.1) (loc_of c h'.2).1 (loc_of c h'.2).2
    | _ => cases h
  | tp is =>
    cases e with
    | Tuple es kk p => exact sg_tp c.calm (by rw [c.hN]; exact c.nd) (nms_of c h)
    | _ => cases h
/-- an expression in all its places -/
structure G3 (X : Cx) (cid : Nat → Addr) (W : L2.WX) (T : Tab) (F : CF) (ie : IE) (e : Expr) : Prop where
  se : SE X cid W T F ie e
  st : ST X cid W T F ie e
  pw : ∀ op x y r p, e = .BoolOp op (x :: y :: r) p → PW X e (tT X.K cid W T F ie)
theorem G3.val {ie : IE} {e : Expr} (h : SE X cid W T F ie e) (hf : ∀ s, evE T F ie true s = fin true (evE T F ie false s)) (he : ∀ whole, isTrue e X.env whole = (do let v ← whole; standAt e.pos; holding [v] (truthy v))) (nb : ∀ op x y r p, e ≠ .BoolOp op (x :: y :: r) p) : G3 X cid W T F ie e :=
  ⟨h, st_val h hf he, fun op x y r p q => (nb op x y r p q).elim⟩
theorem st_ife {a b c : IE} {ea eb ec : Expr} {pos : Pos} (hc : ST X cid W T F c ec) (ha : ST X cid W T F a ea) (hb : ST X cid W T F b eb) : ST X cid W T F (.ife c a b) (.IfExp ec ea eb pos) := by
  refine ⟨fun pins s σ H Q I h => ?_⟩
  obtain ⟨ρ, Rs, gs, Fs, G⟩ := h
  have e : tst (evE T F (.ife c a b) true gs) = (tst (evE T F c true gs)).bind fun t s1 => if t then tst (evE T F a true s1) else tst (evE T F b true s1) := by
    have : evE T F (.ife c a b) true gs = (tst (evE T F c true gs)).bind fun t s1 => if t then evE T F a true s1 else evE T F b true s1 := by rfl
    rw [this]
    cases tst (evE T F c true gs) with
    | ok t s1 => cases t <;> rfl
    | exc c fs s1 => rfl
    | bad => rfl
  rw [e] at G
  rw [arm_isTrue_IfExp]
  refine wpAny_bind (thn (hc.run pins s σ H (fun t H1 => if t = true then tT X.K cid W T F a σ H1 Q else tT X.K cid W T F b σ H1 Q) I ⟨ρ, Rs, gs, Fs, (Good.bind up_B G).imp fun t s1 ρ1 H1 e1 G1 F1 => ?_⟩) fun t s1 ⟨H1, I1, q⟩ => ?_)
  · cases t with
    | true => exact ⟨ρ1, Rs, s1, F1, G1⟩
    | false => exact ⟨ρ1, Rs, s1, F1, G1⟩
  · cases t with
    | true => exact ha.run pins s1 σ H1 Q I1 q
    | false => exact hb.run pins s1 σ H1 Q I1 q
theorem nb_of {e : Expr} (h : ∀ op l p, e ≠ .BoolOp op l p) : ∀ op x y r p, e ≠ .BoolOp op (x :: y :: r) p := fun op x y r p => h op (x :: y :: r) p
end
end GI
set_option Elab.async false
set_option linter.all false
set_option maxRecDepth 100000
/-! GI.Snd: what is decided holds: expressions. -/
namespace GI
open PySem PySem.Spec PyProof.Rows L2
section
variable {M : Nm} {N : List Str} {cid fa : Nat → Addr} {T : Tab} {F : CF} {k : Nat}
theorem ownN_ix {own : List Nat} : (ownN N own).map (·.2) = own := by
  unfold ownN
  rw [List.map_map]
  induction own with
  | nil => rfl
  | cons a r ih => rw [List.map_cons, ih]; rfl
theorem mcall_tree {o : Expr} {n : Str} {apos pos : Pos} {ees : List Expr} {kws : List Keyword} {ks : List String} {env : Env} (hb : noSup o = true) (hl : (apos.endLine == pos.line) = true) (hn : ees.length + kws.length + 1 < 30) (hs : noStars ees = true) (hk : kwNames kws ks = true) :
    eval (.Call (.Attribute o n apos) ees kws pos) env = (do
      let ov ← eval o env
      standAt apos.atName
      let (f, first) ← holding [ov] (getMethod ov n (plainOf o env))
      callWith pos f first (backTo pos (starEach ees env)) (backToKw pos (keywordEach kws env))) := by
  have e1 : eval (.Call (.Attribute o n apos) ees kws pos) env = (do
      let ov ← attributeBase o n env (eval o env)
      standAt apos.atName
      methodCall o n apos pos env ov (ees.length + kws.length) (backTo pos (starEach ees env)) (backToKw pos (keywordEach kws env))) := rfl
  rw [e1, sup_ok hb]
  have hf : methodCallForm (ees.length + kws.length) (backTo pos (starEach ees env)) (backToKw pos (keywordEach kws env)) = true := by
    unfold methodCallForm
    rw [Bool.and_eq_true, Bool.and_eq_true]
    refine ⟨⟨?_, (kw_ok hk).1⟩, ?_⟩
    · exact starEach_all hs
    · refine decide_eq_true ?_
      split <;> omega
  simp only [mcall_line hf hl]
theorem range_nm : ("range" : Str) = Str.ofString "range" := rfl
set_option maxHeartbeats 2000000
mutual
theorem ckE_ok : ∀ (ie : IE) {sc : Scope} {fn : Str → Bool} {X : Cx} {W : L2.WX} {e : Expr}, Ctx M N sc fn X cid fa T F k W → ckE M N ie sc fn e = true → G3 X cid W T F ie e
  | .var i, sc, fn, X, W, e, c, h => by
    cases e with
    | Name x p =>
      have h' : (decide (N[i]? = some x) && visC sc x && !(x == ("__debug__" : Str)) && !(x == ("__classdict__" : Str))) = true := h
      simp only [Bool.and_eq_true, Bool.not_eq_true'] at h'
      obtain ⟨⟨⟨h1, h2⟩, h3⟩, h4⟩ := h'
      exact .val (s_var (by rw [c.hN]; exact of_decide_eq_true h1) (by rw [c.hsc]; exact vis_of h2) h3 h4) (fun _ => rfl) (fun _ => rfl) (nb_of fun _ _ _ z => by cases z)
    | _ => cases h
  | .con v, sc, fn, X, W, e, c, h => by
    cases e with
    | Constant x j p =>
      have h' : ckConst v x = true := h
      refine .val ?_ (fun _ => rfl) (fun _ => rfl) (nb_of fun _ _ _ z => by cases z)
      cases v with
      | non => cases x <;> first | exact con_ok pe_non (fun _ _ _ => rfl) | cases h'
      | bl b => cases x <;> first | (cases (beq_iff_eq.mp h'); exact con_ok pe_bl (fun _ _ _ => rfl)) | cases h'
      | int b => cases x <;> first | (cases (beq_iff_eq.mp h'); exact con_ok pe_int (fun _ _ _ => rfl)) | cases h'
      | str b => cases x <;> first | (cases (of_decide_eq_true h'); exact con_ok pe_str (fun _ _ _ => rfl)) | cases h'
      | _ => cases x <;> cases h'
    | _ => cases h
  | .glb i, sc, fn, X, W, e, c, h => by
    cases e with
    | Name x p =>
      have h' : (decide (M.cns.lookup i = some x) && glC sc x && !(x == ("__debug__" : Str))) = true := h
      simp only [Bool.and_eq_true, Bool.not_eq_true'] at h'
      obtain ⟨⟨h1, h2⟩, h3⟩ := h'
      obtain ⟨u, v, hm, r, hc⟩ := c.cns i x (of_decide_eq_true h1)
      refine .val ?_ (fun _ => rfl) (fun _ => rfl) (nb_of fun _ _ _ z => by cases z)
      exact (pe_glob (gl_of c h2) hm r h3).imp fun σ H Q ⟨ρ, Rs, s, Fs, G⟩ => Good.val (g := T.con i) G Fs (hc _ _ _)
    | _ => cases h
  | .bin op a b, sc, fn, X, W, e, c, h => by
    cases e with
    | BinOp l op' r p =>
      have h' : (decide (op = op') && ckE M N a sc fn l && ckE M N b sc fn r) = true := h
      simp only [Bool.and_eq_true] at h'
      obtain ⟨⟨h1, h2⟩, h3⟩ := h'
      cases of_decide_eq_true h1
      exact .val (s_bin op (ckE_ok a c h2).se (ckE_ok b c h3).se) (fun _ => rfl) (fun _ => rfl) (nb_of fun _ _ _ z => by cases z)
    | _ => cases h
  | .un op a, sc, fn, X, W, e, c, h => by
    cases e with
    | UnaryOp op' x p =>
      have h' : (decide (op = op') && okUn op && ckE M N a sc fn x) = true := h
      simp only [Bool.and_eq_true] at h'
      obtain ⟨⟨h1, h2⟩, h3⟩ := h'
      cases of_decide_eq_true h1
      refine .val (s_un op (ckE_ok a c h3).se) (fun _ => rfl) (fun _ => ?_) (nb_of fun _ _ _ z => by cases z)
      cases op <;> first | rfl | cases h2
    | _ => cases h
  | .not_ a, sc, fn, X, W, e, c, h => by
    cases e with
    | UnaryOp op' x p =>
      have h' : (decide (op' = .Not) && ckE M N a sc fn x) = true := h
      simp only [Bool.and_eq_true] at h'
      obtain ⟨h1, h2⟩ := h'
      cases of_decide_eq_true h1
      have g := ckE_ok a c h2
      exact ⟨s_not g.se, st_not g.st, fun op x y r p q => by cases q⟩
    | _ => cases h
  | .and_ a b, sc, fn, X, W, e, c, h => by
    cases e with
    | BoolOp op l p =>
      match op, l, h with
      | .And, [x, y], h =>
        have h' : (ckE M N a sc fn x && ckE M N b sc fn y) = true := h
        rw [Bool.and_eq_true] at h'
        have ga := ckE_ok a c h'.1
        have gb := ckE_ok b c h'.2
        exact ⟨s_and ga.se (pe_one gb.se), (st_and ga.st (pw_and1 gb.st)).pt, fun op x y r p q => by cases q; exact st_and ga.st (pw_and1 gb.st)⟩
      | .And, x :: y :: z :: r, h =>
        have h' : (ckE M N a sc fn x && ckE M N b sc fn (.BoolOp .And (y :: z :: r) p)) = true := h
        rw [Bool.and_eq_true] at h'
        have ga := ckE_ok a c h'.1
        have gb := ckE_ok b c h'.2
        exact ⟨s_and ga.se gb.se, (st_and ga.st (gb.pw _ _ _ _ _ rfl)).pt, fun op x y r p q => by cases q; exact st_and ga.st (gb.pw _ _ _ _ _ rfl)⟩
      | .And, [], h => cases h
      | .And, [_], h => cases h
      | .Or, [], h => cases h
      | .Or, [_], h => cases h
      | .Or, [_, _], h => cases h
      | .Or, _ :: _ :: _ :: _, h => cases h
    | _ => cases h
  | .or_ a b, sc, fn, X, W, e, c, h => by
    cases e with
    | BoolOp op l p =>
      match op, l, h with
      | .Or, [x, y], h =>
        have h' : (ckE M N a sc fn x && ckE M N b sc fn y) = true := h
        rw [Bool.and_eq_true] at h'
        have ga := ckE_ok a c h'.1
        have gb := ckE_ok b c h'.2
        exact ⟨s_or ga.se (pe_one gb.se), (st_or ga.st (pw_or1 gb.st)).pt, fun op x y r p q => by cases q; exact st_or ga.st (pw_or1 gb.st)⟩
      | .Or, x :: y :: z :: r, h =>
        have h' : (ckE M N a sc fn x && ckE M N b sc fn (.BoolOp .Or (y :: z :: r) p)) = true := h
        rw [Bool.and_eq_true] at h'
        have ga := ckE_ok a c h'.1
        have gb := ckE_ok b c h'.2
        exact ⟨s_or ga.se gb.se, (st_or ga.st (gb.pw _ _ _ _ _ rfl)).pt, fun op x y r p q => by cases q; exact st_or ga.st (gb.pw _ _ _ _ _ rfl)⟩
      | .Or, [], h => cases h
      | .Or, [_], h => cases h
      | .And, [], h => cases h
      | .And, [_], h => cases h
      | .And, [_, _], h => cases h
      | .And, _ :: _ :: _ :: _, h => cases h
    | _ => cases h
  | .ife t a b, sc, fn, X, W, e, c, h => by
    cases e with
    | IfExp et x y p =>
      have h' : (ckE M N t sc fn et && ckE M N a sc fn x && ckE M N b sc fn y) = true := h
      simp only [Bool.and_eq_true] at h'
      obtain ⟨⟨h1, h2⟩, h3⟩ := h'
      have gt := ckE_ok t c h1
      have ga := ckE_ok a c h2
      have gb := ckE_ok b c h3
      exact ⟨s_ife gt.st ga.se gb.se, st_ife gt.st ga.st gb.st, fun op x y r p q => by cases q⟩
    | _ => cases h
  | .cmp op a b, sc, fn, X, W, e, c, h => by
    cases e with
    | Compare l ops rs p =>
      match ops, rs, h with
      | [op'], [r], h =>
        have h' : (decide (op = op') && !behindInMarks op r && ckE M N a sc fn l && ckE M N b sc fn r) = true := h
        simp only [Bool.and_eq_true, Bool.not_eq_true'] at h'
        obtain ⟨⟨⟨h1, h2⟩, h3⟩, h4⟩ := h'
        cases of_decide_eq_true h1
        have ga := ckE_ok a c h3
        have gb := ckE_ok b c h4
        exact ⟨s_cmp c.un op ga.se gb.se h2, st_cmp c.un op ga.se gb.se h2, fun op x y r p q => by cases q⟩
      | [], _, h => cases h
      | [_], [], h => cases h
      | [_], _ :: _ :: _, h => cases h
      | _ :: _ :: _, _, h => cases h
    | _ => cases h
  | .chn op op2 a b d, sc, fn, X, W, e, c, h => by
    cases e with
    | Compare l ops rs p =>
      match ops, rs, h with
      | [o1, o2], [x, y], h =>
        have h' : (decide (op = o1) && decide (op2 = o2) && !lastMarks [op, op2] [x, y] && ckE M N a sc fn l && ckE M N b sc fn x && ckE M N d sc fn y) = true := h
        simp only [Bool.and_eq_true, Bool.not_eq_true'] at h'
        obtain ⟨⟨⟨⟨⟨h1, h0⟩, h2⟩, h3⟩, h4⟩, h5⟩ := h'
        cases of_decide_eq_true h1
        cases of_decide_eq_true h0
        have ga := ckE_ok a c h3
        have gb := ckE_ok b c h4
        have gd := ckE_ok d c h5
        exact ⟨s_chn c.un op op2 ga.se gb.se gd.se h2, st_chn c.un op op2 ga.se gb.se gd.se h2, fun op x y r p q => by cases q⟩
      | [], _, h => cases h
      | [_], _, h => cases h
      | [_, _], [], h => cases h
      | [_, _], [_], h => cases h
      | [_, _], _ :: _ :: _ :: _, h => cases h
      | _ :: _ :: _ :: _, _, h => cases h
    | _ => cases h
  | .ix a b, sc, fn, X, W, e, c, h => by
    cases e with
    | Subscript v s p =>
      have h' : (noSlice s && ckE M N a sc fn v && ckE M N b sc fn s) = true := h
      simp only [Bool.and_eq_true] at h'
      obtain ⟨⟨h1, h2⟩, h3⟩ := h'
      exact .val (s_ix (ckE_ok a c h2).se (ckE_ok b c h3).se (slice_ok h1)) (fun _ => rfl) (fun _ => rfl) (nb_of fun _ _ _ z => by cases z)
    | _ => cases h
  | .sl a lo hi, sc, fn, X, W, e, c, h => by
    cases e with
    | Subscript v s p =>
      cases s with
      | Slice l u st p2 =>
        cases st with
        | none =>
          have h' : (ckE M N a sc fn v && ckO M N lo sc fn l && ckO M N hi sc fn u) = true := h
          simp only [Bool.and_eq_true] at h'
          obtain ⟨⟨h1, h2⟩, h3⟩ := h'
          exact .val (s_sl (ckE_ok a c h1).se (ckO_ok lo c h2) (ckO_ok hi c h3)) (fun _ => rfl) (fun _ => rfl) (nb_of fun _ _ _ z => by cases z)
        | some _ => cases h
      | _ => cases h
    | _ => cases h
  | .att a f, sc, fn, X, W, e, c, h => by
    cases e with
    | Attribute v x p =>
      have h' : (decide (x = Str.ofString f) && noSup v && ckE M N a sc fn v) = true := h
      simp only [Bool.and_eq_true] at h'
      obtain ⟨⟨h1, h2⟩, h3⟩ := h'
      cases of_decide_eq_true h1
      exact .val (s_att c.to (ckE_ok a c h3).se (sup_ok h2)) (fun _ => rfl) (fun _ => rfl) (nb_of fun _ _ _ z => by cases z)
    | _ => cases h
  | .lst hp es, sc, fn, X, W, e, c, h => by
    cases e with
    | List ees p =>
      have h' : (noStars ees && ckEs M N es sc fn ees) = true := h
      rw [Bool.and_eq_true] at h'
      exact .val (s_lst (ckEs_ok es c h'.1 h'.2)) (fun _ => rfl) (fun _ => rfl) (nb_of fun _ _ _ z => by cases z)
    | _ => cases h
  | .tup es, sc, fn, X, W, e, c, h => by
    cases e with
    | Tuple ees kk p =>
      have h' : (noStars ees && ckEs M N es sc fn ees) = true := h
      rw [Bool.and_eq_true] at h'
      exact .val (s_tup (ckEs_ok es c h'.1 h'.2)) (fun _ => rfl) (fun _ => rfl) (nb_of fun _ _ _ z => by cases z)
    | _ => cases h
  | .lc hp elt tg it d own, sc, fn, X, W, e, c, h => by
    cases e with
    | ListComp eelt gens scope p =>
      match gens, h with
      | [⟨t, iter, ifs, 0⟩], h =>
        have h' : (blkC N sc scope (ownN N own) && tg.ix.all (own.contains ·) && noSet iter && ckI M N it sc fn iter &&
          ckG N (relS scope sc) (fun x => scope.names.lookup x == some .cell) tg t && ckC M N d (relS scope sc) (fun x => scope.names.lookup x == some .cell) ifs && ckE M N elt (relS scope sc) (fun x => scope.names.lookup x == some .cell) eelt) = true := h
        simp only [Bool.and_eq_true] at h'
        obtain ⟨⟨⟨⟨⟨⟨h1, h2⟩, h3⟩, h4⟩, h5⟩, h6⟩, h7⟩ := h'
        have ok : BlkOk X.N X.env.scope scope (ownN N own) := by rw [c.hN, c.hsc]; exact blkOk_by h1
        refine .val ?_ (fun _ => rfl) (fun _ => rfl) (nb_of fun _ _ _ z => by cases z)
        have hix : ∀ i ∈ tg.ix, i ∈ (ownN N own).map (·.2) := fun i hi => by
          rw [ownN_ix]
          rw [List.all_eq_true] at h2
          simpa using h2 i hi
        have := s_lc (cid := cid) (W := W) (T := T) (F := F) (pos := p) (hp := hp) (elt := elt) (it := it) (c := d) hix c.calm (by rw [c.hN]; exact c.nd) (ckI_ok it c h4) ok (fun s H C cl fp => g_of (c.blk ok.kind s H C cl fp) h5) (fun s H C cl fp => ckC_ok d (c.blk ok.kind s H C cl fp) h6)
          (fun s H C cl fp => (ckE_ok elt (c.blk ok.kind s H C cl fp) h7).se) (fun x => set_ok h3)
        rw [ownN_ix] at this
        exact this
      | [], h => cases h
      | [⟨t, iter, ifs, .ofNat (n + 1)⟩], h => cases h
      | [⟨t, iter, ifs, .negSucc n⟩], h => cases h
      | ⟨_, _, _, .ofNat 0⟩ :: _ :: _, h => cases h
      | ⟨_, _, _, .ofNat (n + 1)⟩ :: _ :: _, h => cases h
      | ⟨_, _, _, .negSucc n⟩ :: _ :: _, h => cases h
    | _ => cases h
  | .call f es ks kes, sc, fn, X, W, e, c, h => by
    cases e with
    | Call fe ees kws p =>
      cases fe with
      | Name x p2 =>
        have h' : (decide (M.fns.lookup f = some x) && glC sc x && !(x == ("__debug__" : Str)) && noStars ees && ckEs M N es sc fn ees && kwNames kws ks && ckKs M N kes sc fn kws) = true := h
        simp only [Bool.and_eq_true, Bool.not_eq_true'] at h'
        obtain ⟨⟨⟨⟨⟨⟨h1, h2⟩, h3⟩, h4⟩, h5⟩, h6⟩, h7⟩ := h'
        obtain ⟨d, hd, hm⟩ := c.fns f x (of_decide_eq_true h1)
        obtain ⟨fd, ps, S, Fg⟩ := c.to.fn f d hd
        refine .val (s_call c.tk c.gu (c.rm.mono (Nat.le_succ _)) hd S Fg (gl_of c h2) hm h3 ⟨ckEs_ok es c h4 h5, h4, fun z => ?_⟩ (ckKs_ok kes c h7) h6) (fun _ => rfl) (fun _ => rfl) (nb_of fun _ _ _ z => by cases z)
        subst z
        exact ckEs_nil h5
      | _ => cases h
    | _ => cases h
  | .make f es ks kes, sc, fn, X, W, e, c, h => by
    cases e with
    | Call fe ees kws p =>
      cases fe with
      | Name x p2 =>
        have h' : (decide (M.cls.lookup f = some x) && glC sc x && !(x == ("__debug__" : Str)) && noStars ees && ckEs M N es sc fn ees && kwNames kws ks && ckKs M N kes sc fn kws) = true := h
        simp only [Bool.and_eq_true, Bool.not_eq_true'] at h'
        obtain ⟨⟨⟨⟨⟨⟨h1, h2⟩, h3⟩, h4⟩, h5⟩, h6⟩, h7⟩ := h'
        obtain ⟨hd, hm, hk⟩ := c.cls f x (of_decide_eq_true h1)
        refine .val (s_make c.tk c.gu c.rm c.to hd (gl_of c h2) hm hk h3 ⟨ckEs_ok es c h4 h5, h4, fun z => ?_⟩ (ckKs_ok kes c h7) h6) (fun _ => rfl) (fun _ => rfl) (nb_of fun _ _ _ z => by cases z)
        subst z
        exact ckEs_nil h5
      | _ => cases h
    | _ => cases h
  | .meth o m es ks kes, sc, fn, X, W, e, c, h => by
    cases e with
    | Call fe ees kws p =>
      cases fe with
      | Attribute eo x apos =>
        have h' : (decide (x = Str.ofString m) && noSup eo && (apos.endLine == p.line) && decide (ees.length + kws.length + 1 < 30) && ckE M N o sc fn eo && noStars ees && ckEs M N es sc fn ees && kwNames kws ks && ckKs M N kes sc fn kws) = true := h
        simp only [Bool.and_eq_true] at h'
        obtain ⟨⟨⟨⟨⟨⟨⟨⟨h1, h2⟩, h3⟩, h4⟩, h5⟩, h6⟩, h7⟩, h8⟩, h9⟩ := h'
        cases of_decide_eq_true h1
        refine .val (s_meth c.tk c.gu (c.rm.mono (Nat.le_succ _)) c.to (ckE_ok o c h5).se ⟨ckEs_ok es c h6 h7, h6, fun z => ?_⟩ (ckKs_ok kes c h9) h8 (mcall_tree h2 h3 (of_decide_eq_true h4) h6 h8)) (fun _ => rfl) (fun _ => rfl) (nb_of fun _ _ _ z => by cases z)
        subst z
        exact ckEs_nil h7
      | _ => cases h
    | _ => cases h
  | .bi n es, sc, fn, X, W, e, c, h => by
    cases e with
    | Call fe ees kws p =>
      cases fe with
      | Name x p2 =>
        match ees, kws, h with
        | a :: r, [], h =>
          have h' : (decide (x = Str.ofString n.nm) && n.done && glC sc x && M.bls.contains x && noStars (a :: r) && ckEs M N es sc fn (a :: r)) = true := h
          simp only [Bool.and_eq_true] at h'
          obtain ⟨⟨⟨⟨⟨h1, h2⟩, h3⟩, h4⟩, h5⟩, h6⟩ := h'
          cases of_decide_eq_true h1
          exact .val (s_bi h2 c.calm (by have := c.un; omega) c.gu (gl_of c h3) (c.bls _ h4) (ckEs_ok es c h5 h6) h5) (fun _ => rfl) (fun _ => rfl) (nb_of fun _ _ _ z => by cases z)
        | [], [], h => cases h
        | [], _ :: _, h => cases h
        | _ :: _, _ :: _, h => cases h
      | _ => cases h
    | _ => cases h
  | .bm o m es, sc, fn, X, W, e, c, h => by
    cases e with
    | Call fe ees kws p =>
      cases fe with
      | Attribute eo x apos =>
        match kws, h with
        | [], h =>
          have h' : (decide (x = Str.ofString m.nm) && noSup eo && (apos.endLine == p.line) && decide (ees.length < 30) && ckE M N o sc fn eo && noStars ees && ckEs M N es sc fn ees) = true := h
          simp only [Bool.and_eq_true] at h'
          obtain ⟨⟨⟨⟨⟨⟨h1, h2⟩, h3⟩, h4⟩, h5⟩, h6⟩, h7⟩ := h'
          cases of_decide_eq_true h1
          have go := ckE_ok o c h5
          refine .val ?_ (fun _ => rfl) (fun _ => rfl) (nb_of fun _ _ _ z => by cases z)
          cases ees with
          | nil =>
            have e : es = .nil := ckEs_nil h7
            subst e
            exact s_bm0 go.se (sup_ok h2) h3
          | cons a r => exact s_bm go.se (ckEs_ok es c h6 h7) h6 (of_decide_eq_true h4) (sup_ok h2) h3
        | _ :: _, h => cases h
      | _ => cases h
    | _ => cases h
  | .isi a ts, sc, fn, X, W, e, c, h => by
    cases e with
    | Call fe ees kws p =>
      cases fe with
      | Name x p2 =>
        match ees, kws, h with
        | [ea, et], [], h =>
          refine .val ?_ (fun _ => rfl) (fun _ => rfl) (nb_of fun _ _ _ z => by cases z)
          cases et with
          | Tuple tes kk pt =>
            have h' : (decide (x = ("isinstance" : Str)) && glC sc x && M.bls.contains x && noStar ea && ckE M N a sc fn ea && ckTys M sc ts tes && decide (tes.length < 1000)) = true := h
            simp only [Bool.and_eq_true] at h'
            obtain ⟨⟨⟨⟨⟨⟨h1, h2⟩, h3⟩, h4⟩, h5⟩, h6⟩, h7⟩ := h'
            cases of_decide_eq_true h1
            refine s_isiT (ckE_ok a c h5).se h4 (gl_of c h2) (c.bls _ h3) (stys_of c h6) ?_
            have := of_decide_eq_true h7
            rw [sizeLine_eq]
            omega
          | Name y p3 =>
            have h' : (decide (x = ("isinstance" : Str)) && glC sc x && M.bls.contains x && noStar ea && ckE M N a sc fn ea && ckTys M sc ts [.Name y p3] && decide (ts.length = 1)) = true := h
            simp only [Bool.and_eq_true] at h'
            obtain ⟨⟨⟨⟨⟨⟨h1, h2⟩, h3⟩, h4⟩, h5⟩, h6⟩, h7⟩ := h'
            cases of_decide_eq_true h1
            have st := stys_of c h6
            cases st with
            | cons hb hg hm r =>
              cases r
              exact s_isi1 (ckE_ok a c h5).se h4 (gl_of c h2) (c.bls _ h3) hb hg hm
          | _ =>
            have h' : (decide (x = ("isinstance" : Str)) && glC sc x && M.bls.contains x && noStar ea && ckE M N a sc fn ea && ckTys M sc ts [_] && decide (ts.length = 1)) = true := h
            simp only [Bool.and_eq_true] at h'
            have := h'.1.2
            cases ts with
            | nil => cases this
            | cons t r => cases t <;> cases this
        | [], _, h => cases h
        | [_], _, h => cases h
        | [_, y], _ :: _, h => cases y <;> cases h
        | _ :: y :: _ :: _, _, h => cases y <;> cases h
      | _ => cases h
    | _ => cases h
theorem ckEs_ok : ∀ (es : IEs) {sc : Scope} {fn : Str → Bool} {X : Cx} {W : L2.WX} {ees : List Expr}, Ctx M N sc fn X cid fa T F k W → noStars ees = true → ckEs M N es sc fn ees = true → SL X cid W T F es ees
  | .nil, sc, fn, X, W, ees, c, _, h => by
    cases ees with
    | nil => exact sl_nil
    | cons _ _ => cases h
  | .cons a r, sc, fn, X, W, ees, c, hs, h => by
    cases ees with
    | nil => cases h
    | cons e es =>
      have h' : (ckE M N a sc fn e && ckEs M N r sc fn es) = true := h
      rw [Bool.and_eq_true] at h'
      have hs' : (noStar e && noStars es) = true := hs
      rw [Bool.and_eq_true] at hs'
      exact sl_cons (ckE_ok a c h'.1).se (ckEs_ok r c hs'.2 h'.2) (star_each hs'.1)
theorem ckEs_nil : ∀ {es : IEs} {sc : Scope} {fn : Str → Bool}, ckEs M N es sc fn [] = true → es = .nil
  | .nil, _, _, _ => rfl
  | .cons _ _, _, _, h => by cases h
theorem ckKs_ok : ∀ (es : IEs) {sc : Scope} {fn : Str → Bool} {X : Cx} {W : L2.WX} {ees : List Keyword}, Ctx M N sc fn X cid fa T F k W → ckKs M N es sc fn ees = true → SK X cid W T F es ees
  | .nil, sc, fn, X, W, ees, c, h => by
    cases ees with
    | nil => exact sk_nil
    | cons _ _ => cases h
  | .cons a r, sc, fn, X, W, ees, c, h => by
    cases ees with
    | nil => cases h
    | cons e es =>
      obtain ⟨nm, e, kp⟩ := e
      have h' : (ckE M N a sc fn e && ckKs M N r sc fn es) = true := h
      rw [Bool.and_eq_true] at h'
      exact sk_cons (ckE_ok a c h'.1).se (ckKs_ok r c h'.2)
theorem ckO_ok : ∀ (o : IEo) {sc : Scope} {fn : Str → Bool} {X : Cx} {W : L2.WX} {e : Option Expr}, Ctx M N sc fn X cid fa T F k W → ckO M N o sc fn e = true → PO X e (tO X.K cid W T F o)
  | .no, sc, fn, X, W, e, c, h => by
    cases e with
    | none => exact so_none
    | some _ => cases h
  | .so a, sc, fn, X, W, e, c, h => by
    cases e with
    | none => cases h
    | some e => exact so_some (ckE_ok a c h).se
theorem ckC_ok : ∀ (o : IEo) {sc : Scope} {fn : Str → Bool} {X : Cx} {W : L2.WX} {e : List Expr}, Ctx M N sc fn X cid fa T F k W → ckC M N o sc fn e = true → PTs X e (tCo X.K cid W T F o)
  | .no, sc, fn, X, W, e, c, h => by
    cases e with
    | nil => exact sc_none
    | cons _ _ => cases h
  | .so a, sc, fn, X, W, e, c, h => by
    match e, h with
    | [], h => cases h
    | [x], h => exact sc_one (ckE_ok a c h).st
    | _ :: _ :: _, h => cases h
theorem ckI_ok : ∀ (it : II) {sc : Scope} {fn : Str → Bool} {X : Cx} {W : L2.WX} {tg e : Expr}, Ctx M N sc fn X cid fa T F k W → ckI M N it sc fn e = true → PI X tg e (tI X.K cid W T F it)
  | .seq a, sc, fn, X, W, tg, e, c, h => si_seq (ckE_ok a c h).se
  | .rng (.cons a .nil), sc, fn, X, W, tg, e, c, h => by
    cases e with
    | Call fe ees kws p =>
      cases fe with
      | Name x p2 =>
        match ees, kws, h with
        | [y], [], h =>
          have h' : (decide (x = ("range" : Str)) && glC sc x && M.bls.contains x && noStar y && ckE M N a sc fn y) = true := h
          simp only [Bool.and_eq_true] at h'
          obtain ⟨⟨⟨⟨h1, h2⟩, h3⟩, h4⟩, h5⟩ := h'
          cases of_decide_eq_true h1
          exact si_range1 (gl_of c h2) (c.bls _ h3) (sl_cons (ckE_ok a c h5).se sl_nil (star_each h4)) h4
        | [], _, h => cases h
        | [_], _ :: _, h => cases h
        | _ :: _ :: _, _, h => cases h
      | _ => cases h
    | _ => cases h
  | .rng (.cons a (.cons b .nil)), sc, fn, X, W, tg, e, c, h => by
    cases e with
    | Call fe ees kws p =>
      cases fe with
      | Name x p2 =>
        match ees, kws, h with
        | [y, z], [], h =>
          have h' : (decide (x = ("range" : Str)) && glC sc x && M.bls.contains x && noStar y && noStar z && ckE M N a sc fn y && ckE M N b sc fn z) = true := h
          simp only [Bool.and_eq_true] at h'
          obtain ⟨⟨⟨⟨⟨⟨h1, h2⟩, h3⟩, h4⟩, h5⟩, h6⟩, h7⟩ := h'
          cases of_decide_eq_true h1
          exact si_range2 (gl_of c h2) (c.bls _ h3) (sl_cons (ckE_ok a c h6).se (sl_cons (ckE_ok b c h7).se sl_nil (star_each h5)) (star_each h4)) h4 h5
        | [], _, h => cases h
        | [_], _, h => cases h
        | [_, _], _ :: _, h => cases h
        | _ :: _ :: _ :: _, _, h => cases h
      | _ => cases h
    | _ => cases h
  | .rng .nil, sc, fn, X, W, tg, e, c, h => by cases h
  | .rng (.cons _ (.cons _ (.cons _ _))), sc, fn, X, W, tg, e, c, h => by cases h
end
end
end GI
set_option Elab.async false
set_option linter.all false
set_option maxRecDepth 100000
/-! GI.Sns: what is decided holds: statements. -/
namespace GI
open PySem PySem.Spec PyProof.Rows L2
def noComp : Expr → Bool
  | .ListComp _ _ _ _ => false
  | .SetComp _ _ _ _ => false
  | .DictComp _ _ _ _ _ => false
  | _ => true
def isNm : Expr → Bool
  | .Name _ _ => true
  | _ => false
/-- a comprehension that is stored as it ends -/
def swC (sc : Scope) (v : Expr) (x : Str) (p : Pos) : Bool := match v with
  | .ListComp _ _ s vp => (sc.names.lookup x == some .local) && (p.line == vp.line) && !(s.names.any fun (n, k) => n == x && (k == .local || k == .cell))
  | .SetComp _ _ s vp => (sc.names.lookup x == some .local) && (p.line == vp.line) && !(s.names.any fun (n, k) => n == x && (k == .local || k == .cell))
  | .DictComp _ _ _ s vp => (sc.names.lookup x == some .local) && (p.line == vp.line) && !(s.names.any fun (n, k) => n == x && (k == .local || k == .cell))
  | _ => false
/-- plain local names on one line -/
def nmsLoc (sc : Scope) (line : Nat) : List Expr → Bool
  | [] => true
  | .Name x p :: r => (sc.names.lookup x == some .local) && (p.line == line) && nmsLoc sc line r
  | _ => false
def nmOf : Expr → Str
  | .Name x _ => x
  | _ => Str.empty
def parC (sc : Scope) (ts vs : List Expr) : Bool :=
  nmsLoc sc ((ts.head?.map (·.pos.line)).getD 0) ts && noStars vs && ((ts.map nmOf).eraseDups.length == (ts.map nmOf).length) && !vs.all (foldedForSure 8) && !vs.all (constantsAlone 8)
def unpC (sc : Scope) (ts : List Expr) (v : Expr) : Bool := match v with
  | .Tuple vs _ _ => !(ts.length == 2 || ts.length == 3) || vs.length != ts.length || !nmsLoc sc ((ts.head?.map (·.pos.line)).getD 0) ts || vs.all (foldedForSure 8)
  | _ => true
def isLc : IE → Bool
  | .lc _ _ _ _ _ _ => true
  | _ => false
def okAug : Operator → Bool
  | .Add => true
  | .Sub => true
  | _ => false
section
variable (M : Nm) (N : List Str) (sc : Scope) (fn : Str → Bool)
mutual
def ckS : IS → Stmt → Bool
  | .nev => fun _ => true
  | .pass => fun st => match st with
    | .Pass _ => true
    | .Expr (.Constant (.str _) _ _) _ => true
    | _ => false
  | .brk => fun st => match st with
    | .Break _ => true
    | _ => false
  | .cnt => fun st => match st with
    | .Continue _ => true
    | _ => false
  | .exp a => fun st => match st with
    | .Expr e _ => noComp e && ckE M N a sc fn e
    | _ => false
  | .ret .no => fun st => match st with
    | .Return none _ => true
    | _ => false
  | .ret (.so a) => fun st => match st with
    | .Return (some e) _ => ckE M N a sc fn e
    | _ => false
  | .asg i a => fun st => match st with
    | .Assign [.Name x p] v _ => decide (N[i]? = some x) && locC sc fn x && ckE M N a sc fn v && (!swC sc v x p || isLc a)
    | _ => false
  | .par is es => fun st => match st with
    | .Assign [.Tuple ts _ _] (.Tuple vs _ _) _ => parC sc ts vs && ckNms N sc fn is ts && ckEs M N es sc fn vs && (is.length == vs.length) && (is.length == 2 || is.length == 3) && decide is.Nodup
    | _ => false
  | .unp is a => fun st => match st with
    | .Assign [.Tuple ts _ _] v _ => unpC sc ts v && ckNms N sc fn is ts && ckE M N a sc fn v
    | _ => false
  | .setA o f a => fun st => match st with
    | .Assign [.Attribute eo x _] v _ => decide (x = Str.ofString f) && ckE M N o sc fn eo && ckE M N a sc fn v
    | _ => false
  | .setI o i a => fun st => match st with
    | .Assign [.Subscript eo ei _] v _ => noSlice ei && ckE M N o sc fn eo && ckE M N i sc fn ei && ckE M N a sc fn v
    | _ => false
  | .aug i op a => fun st => match st with
    | .AugAssign (.Name x _) op' e _ => decide (op = op') && okAug op && decide (N[i]? = some x) && locC sc fn x && ckE M N a sc fn e
    | _ => false
  | .ife c a b => fun st => match st with
    | .If t x y _ => ckE M N c sc fn t && ckSs a x && ckSs b y
    | _ => false
  | .for_ tg it b => fun st => match st with
    | .For t iter body [] _ => noSet iter && ckG N sc fn tg t && ckI M N it sc fn iter && ckSs b body
    | _ => false
  | .whl c b => fun st => match st with
    | .While t body [] _ => ckE M N c sc fn t && ckSs b body
    | _ => false
def ckSs : ISs → List Stmt → Bool
  | .nil => fun st => match st with
    | [] => true
    | _ => false
  | .cons a r => fun st => match st with
    | x :: xs => ckS a x && ckSs r xs
    | _ => false
end
end
section
variable {M : Nm} {N : List Str} {sc : Scope} {fn : Str → Bool} {X : Cx} {cid fa : Nat → Addr} {T : Tab} {F : CF} {k : Nat} {W : L2.WX}
theorem sw_no {v : Expr} {t : Option Expr} {l : Nat} {env : Env} (h : noComp v = true) : swapsWith v t l env = pure false := by
  cases v <;> first | rfl | cases h
theorem sw_tg {v t : Expr} {l : Nat} {env : Env} (h : isNm t = false) : swapsWith v (some t) l env = pure false := by
  cases t <;> first | (cases v <;> rfl) | cases h
theorem blockKind_of (c : Ctx M N sc fn X cid fa T F k W) : X.env.blockKind = .function := by
  unfold Env.blockKind; rw [c.hsc, c.kd]; rfl
theorem sw_is (c : Ctx M N sc fn X cid fa T F k W) {v : Expr} {x : Str} {p : Pos} {l : Nat} : swapsWith v (some (.Name x p)) l X.env = pure (swC sc v x p) := by
  have hb := blockKind_of c
  have hk : X.env.kindOf x = sc.names.lookup x := by rw [← c.hsc]; rfl
  cases v with
  | ListComp e g s vp => unfold swapsWith swC; simp only [hb, hk, Expr.pos]; rfl
  | SetComp e g s vp => unfold swapsWith swC; simp only [hb, hk, Expr.pos]; rfl
  | DictComp e e2 g s vp => unfold swapsWith swC; simp only [hb, hk, Expr.pos]; rfl
  | _ => rfl
theorem stars_any : ∀ {vs : List Expr}, noStars vs = true → (vs.any fun | .Starred .. => true | _ => false) = false
  | [], _ => rfl
  | e :: r, h => by
    have h' : (noStar e && noStars r) = true := h
    rw [Bool.and_eq_true] at h'
    rw [List.any_cons, stars_any h'.2, Bool.or_false]
    cases e <;> first | rfl | (have := h'.1; cases this)
def nmf (env : Env) (line : Nat) : Expr → Option Str
  | .Name id pos => if env.kindOf id == some .local && pos.line == line then some id else none
  | _ => none
theorem nms_filter (c : Ctx M N sc fn X cid fa T F k W) {line : Nat} : ∀ {ts : List Expr}, (nmsLoc sc line ts = true → ts.filterMap (nmf X.env line) = ts.map nmOf) ∧ (nmsLoc sc line ts = false → (ts.filterMap (nmf X.env line)).length < ts.length) ∧ (ts.filterMap (nmf X.env line)).length ≤ ts.length
  | [] => ⟨fun _ => rfl, (fun h => by cases h), Nat.le_refl _⟩
  | t :: r => by
    obtain ⟨i1, i2, i3⟩ := nms_filter c (line := line) (ts := r)
    cases t with
    | Name x p =>
      have hk : X.env.kindOf x = sc.names.lookup x := by rw [← c.hsc]; rfl
      have e0 : nmsLoc sc line (.Name x p :: r) = ((sc.names.lookup x == some .local) && (p.line == line) && nmsLoc sc line r) := rfl
      have e1 : nmf X.env line (.Name x p) = if (sc.names.lookup x == some .local && p.line == line) = true then some x else none := by
        show (if (X.env.kindOf x == some .local && p.line == line) = true then some x else none) = _
        rw [hk]
      rw [e0, List.filterMap_cons, e1]
      cases q : (sc.names.lookup x == some .local && p.line == line) with
      | true =>
        rw [if_pos rfl, Bool.true_and]
        refine ⟨fun h => ?_, fun h => ?_, ?_⟩
        · show x :: _ = _; rw [i1 h]; rfl
        · show (x :: _).length < _; rw [List.length_cons, List.length_cons]; exact Nat.succ_lt_succ (i2 h)
        · show (x :: _).length ≤ _; rw [List.length_cons, List.length_cons]; exact Nat.succ_le_succ i3
      | false =>
        rw [if_neg (by decide), Bool.false_and]
        exact ⟨fun h => (by cases h), fun _ => Nat.lt_succ_of_le i3, Nat.le_succ_of_le i3⟩
    | _ => exact ⟨fun h => (by cases h), fun _ => Nat.lt_succ_of_le i3, Nat.le_succ_of_le i3⟩
theorem swst_eq {ts vs : List Expr} {kk k2 : Nat} {pt pt2 : Pos} {env : Env} : swappedStores [.Tuple ts kk pt] (.Tuple vs k2 pt2) env = (do
    if !(ts.length == 2 || ts.length == 3) || vs.length != ts.length || env.blockKind != .function then return none
    if vs.any fun | .Starred .. => true | _ => false then return none
    if (ts.filterMap (nmf env ((ts.head?.map (·.pos.line)).getD 0))).length != ts.length || (ts.filterMap (nmf env ((ts.head?.map (·.pos.line)).getD 0))).eraseDups.length != (ts.filterMap (nmf env ((ts.head?.map (·.pos.line)).getD 0))).length then return none
    if vs.all (foldedForSure 8) then return none
    if vs.all (constantsAlone 8) then unsupported "assign.tuple-of-constant-expressions:order-of-the-stores"
    return some (ts.filterMap (nmf env ((ts.head?.map (·.pos.line)).getD 0)))) := by
  rfl
theorem swst_some (c : Ctx M N sc fn X cid fa T F k W) {ts vs : List Expr} {kk k2 : Nat} {pt pt2 : Pos} (h : parC sc ts vs = true) (hl : ts.length = 2 ∨ ts.length = 3) (hv : vs.length = ts.length) : swappedStores [.Tuple ts kk pt] (.Tuple vs k2 pt2) X.env = pure (some (ts.map nmOf)) := by
  unfold parC at h
  simp only [Bool.and_eq_true, Bool.not_eq_true'] at h
  obtain ⟨⟨⟨⟨h1, h2⟩, h3⟩, h4⟩, h5⟩ := h
  rw [swst_eq]
  have e1 : (!(ts.length == 2 || ts.length == 3) || vs.length != ts.length || X.env.blockKind != .function) = false := by
    rw [blockKind_of c, hv]
    rcases hl with z | z <;> rw [z] <;> rfl
  rw [e1, stars_any h2, (nms_filter c).1 h1, h4, h5]
  have e2 : ((ts.map nmOf).length != ts.length || (ts.map nmOf).eraseDups.length != (ts.map nmOf).length) = false := by
    rw [List.length_map]
    rw [beq_iff_eq, List.length_map] at h3
    rw [h3]
    simp
  rw [e2]
  rfl
theorem swst_none (c : Ctx M N sc fn X cid fa T F k W) {ts : List Expr} {v : Expr} {kk : Nat} {pt : Pos} (h : unpC sc ts v = true) : swappedStores [.Tuple ts kk pt] v X.env = pure none := by
  cases v with
  | Tuple vs k2 pt2 =>
    rw [swst_eq]
    have h' : (!(ts.length == 2 || ts.length == 3) || vs.length != ts.length || !nmsLoc sc ((ts.head?.map (·.pos.line)).getD 0) ts || vs.all (foldedForSure 8)) = true := h
    by_cases q1 : (!(ts.length == 2 || ts.length == 3) || vs.length != ts.length) = true
    · rw [q1]; rfl
    · rw [Bool.not_eq_true] at q1
      rw [q1, Bool.false_or] at h'
      rw [q1, blockKind_of c]
      show (if (vs.any fun | .Starred .. => true | _ => false) = true then (pure none : Sem (Option (List Str))) else _) = _
      by_cases q2 : (vs.any fun | .Starred .. => true | _ => false) = true
      · rw [if_pos q2]
      · rw [if_neg q2]
        cases q3 : nmsLoc sc ((ts.head?.map (·.pos.line)).getD 0) ts with
        | false =>
          have := (nms_filter c (line := (ts.head?.map (·.pos.line)).getD 0) (ts := ts)).2.1 q3
          have e : ((ts.filterMap (nmf X.env ((ts.head?.map (·.pos.line)).getD 0))).length != ts.length) = true := by
            simp only [bne_iff_ne, ne_eq]; omega
          rw [e]; rfl
        | true =>
          rw [q3] at h'
          have h4 : vs.all (foldedForSure 8) = true := by simpa using h'
          rw [h4]
          by_cases q4 : ((ts.filterMap (nmf X.env ((ts.head?.map (·.pos.line)).getD 0))).length != ts.length || (ts.filterMap (nmf X.env ((ts.head?.map (·.pos.line)).getD 0))).eraseDups.length != (ts.filterMap (nmf X.env ((ts.head?.map (·.pos.line)).getD 0))).length) = true
          · rw [if_pos q4]
          · rw [if_neg q4]; rfl
  | _ => rfl
theorem lc_parts {hp : Bool} {elt : IE} {tg : IT} {it : II} {d : IEo} {own : List Nat} {e : Expr} (c : Ctx M N sc fn X cid fa T F k W) (h : ckE M N (.lc hp elt tg it d own) sc fn e = true) : ∃ eelt t iter ifs scope p, e = .ListComp eelt [⟨t, iter, ifs, 0⟩] scope p ∧
    (∀ i ∈ tg.ix, i ∈ (ownN N own).map (·.2)) ∧ PI X t iter (tI X.K cid W T F it) ∧ BlkOk X.N X.env.scope scope (ownN N own) ∧
    (∀ (s : Shared) (H : Hp) (C : Addr) (cl : List (Str × Addr)) (fp : List Addr), PG (X.blk s H scope (compEnvC scope cl C X.env) fp) t (gG X.K cid tg)) ∧ (∀ (s : Shared) (H : Hp) (C : Addr) (cl : List (Str × Addr)) (fp : List Addr), PTs (X.blk s H scope (compEnvC scope cl C X.env) fp) ifs (tCo X.K cid W0 T F d)) ∧
    (∀ (s : Shared) (H : Hp) (C : Addr) (cl : List (Str × Addr)) (fp : List Addr), SE (X.blk s H scope (compEnvC scope cl C X.env) fp) cid W0 T F elt eelt) ∧ (∀ x, foldedSetIterable iter X.env x = pure x) := by
  cases e with
  | ListComp eelt gens scope p =>
    match gens, h with
    | [⟨t, iter, ifs, 0⟩], h =>
      have h' : (blkC N sc scope (ownN N own) && tg.ix.all (own.contains ·) && noSet iter && ckI M N it sc fn iter &&
        ckG N (relS scope sc) (fun x => scope.names.lookup x == some .cell) tg t && ckC M N d (relS scope sc) (fun x => scope.names.lookup x == some .cell) ifs && ckE M N elt (relS scope sc) (fun x => scope.names.lookup x == some .cell) eelt) = true := h
      simp only [Bool.and_eq_true] at h'
      obtain ⟨⟨⟨⟨⟨⟨h1, h2⟩, h3⟩, h4⟩, h5⟩, h6⟩, h7⟩ := h'
      have ok : BlkOk X.N X.env.scope scope (ownN N own) := by rw [c.hN, c.hsc]; exact blkOk_by h1
      have hix : ∀ i ∈ tg.ix, i ∈ (ownN N own).map (·.2) := fun i hi => by
        rw [ownN_ix]
        rw [List.all_eq_true] at h2
        simpa using h2 i hi
      exact ⟨eelt, t, iter, ifs, scope, p, rfl, hix, ckI_ok it c h4, ok, fun s H C cl fp => g_of (c.blk ok.kind s H C cl fp) h5, fun s H C cl fp => ckC_ok d (c.blk ok.kind s H C cl fp) h6,
        fun s H C cl fp => (ckE_ok elt (c.blk ok.kind s H C cl fp) h7).se, fun x => set_ok h3⟩
    | [], h => cases h
    | [⟨t, iter, ifs, .ofNat (n + 1)⟩], h => cases h
    | [⟨t, iter, ifs, .negSucc n⟩], h => cases h
    | ⟨_, _, _, .ofNat 0⟩ :: _ :: _, h => cases h
    | ⟨_, _, _, .ofNat (n + 1)⟩ :: _ :: _, h => cases h
    | ⟨_, _, _, .negSucc n⟩ :: _ :: _, h => cases h
  | _ => cases h
theorem nmsLoc_at {line : Nat} {t : Expr} {r : List Expr} (h : nmsLoc sc line (t :: r) = true) : ∃ x p, t = .Name x p ∧ sc.names.lookup x = some .local ∧ nmsLoc sc line r = true := by
  cases t with
  | Name x p =>
    have h' : ((sc.names.lookup x == some .local) && (p.line == line) && nmsLoc sc line r) = true := h
    simp only [Bool.and_eq_true] at h'
    exact ⟨x, p, rfl, beq_iff_eq.mp h'.1.1, h'.2⟩
  | _ => cases h
theorem nms_at {i : Nat} {is : List Nat} {x : Str} {p : Pos} {r : List Expr} (h : ckNms N sc fn (i :: is) (.Name x p :: r) = true) : N[i]? = some x ∧ ckNms N sc fn is r = true := by
  have h' : (decide (N[i]? = some x) && locC sc fn x && ckNms N sc fn is r) = true := h
  simp only [Bool.and_eq_true] at h'
  exact ⟨of_decide_eq_true h'.1.1, h'.2⟩
theorem nms_len : ∀ {is : List Nat} {es : List Expr}, ckNms N sc fn is es = true → es.length = is.length
  | [], [], _ => rfl
  | [], _ :: _, h => by cases h
  | _ :: _, [], h => by cases h
  | i :: is, e :: es, h => by
    cases e with
    | Name x p => rw [List.length_cons, List.length_cons, nms_len (nms_at h).2]
    | _ => cases h
set_option maxHeartbeats 2000000
mutual
theorem ckS_ok : ∀ (i : IS) {st : Stmt}, Ctx M N sc fn X cid fa T F k W → PassesOwn (model X.prog X.w) X.A X.env X.xe → ckS M N sc fn i st = true → SS X cid W T F i st
  | .nev, st, c, hp, h => ss_nev
  | .pass, st, c, hp, h => by
    cases st with
    | Pass p => exact ss_pass
    | Expr e p => cases e with
      | Constant x j p2 => cases x with
        | str s => exact ss_doc
        | _ => cases h
      | _ => cases h
    | _ => cases h
  | .brk, st, c, hp, h => by
    cases st with
    | Break p => exact ss_brk
    | _ => cases h
  | .cnt, st, c, hp, h => by
    cases st with
    | Continue p => exact ss_cnt
    | _ => cases h
  | .exp a, st, c, hp, h => by
    cases st with
    | Expr e p =>
      have h' : (noComp e && ckE M N a sc fn e) = true := h
      rw [Bool.and_eq_true] at h'
      exact ss_exp (ckE_ok a c h'.2).se (sw_no h'.1)
    | _ => cases h
  | .ret .no, st, c, hp, h => by
    cases st with
    | Return v p => cases v with
      | none => exact ss_retN
      | some _ => cases h
    | _ => cases h
  | .ret (.so a), st, c, hp, h => by
    cases st with
    | Return v p => cases v with
      | none => cases h
      | some e => exact ss_ret (ckE_ok a c h).se
    | _ => cases h
  | .asg i a, st, c, hp, h => by
    cases st with
    | Assign ts v p =>
      match ts, h with
      | [t], h =>
        cases t with
        | Name x px =>
          have h' : (decide (N[i]? = some x) && locC sc fn x && ckE M N a sc fn v && (!swC sc v x px || isLc a)) = true := h
          simp only [Bool.and_eq_true] at h'
          obtain ⟨⟨⟨h1, h2⟩, h3⟩, h4⟩ := h'
          have hi : X.N[i]? = some x := by rw [c.hN]; exact of_decide_eq_true h1
          cases q : swC sc v x px with
          | false => exact ss_asg (by rw [c.hN]; exact c.nd) hi (loc_of c h2).1 (ckE_ok a c h3).se (by rw [sw_is c, q]) (loc_of c h2).2
          | true =>
            rw [q] at h4
            cases a with
            | lc hpp elt tg it d own =>
              obtain ⟨eelt, t, iter, ifs, scope, p2, rfl, g1, g2, g3, g4, g5, g6, g7⟩ := lc_parts c h3
              have hyl : X.env.scope.names.lookup x = some .local := by
                have q' : ((sc.names.lookup x == some .local) && (px.line == p2.line) && !(scope.names.any fun (n, k) => n == x && (k == .local || k == .cell))) = true := q
                simp only [Bool.and_eq_true] at q'
                rw [c.hsc]; exact beq_iff_eq.mp q'.1.1
              have := ss_asgLc (cid := cid) (W := W) (T := T) (F := F) (hp := hpp) (i := i) (spos := p) (py := px) g1 c.calm (by rw [c.hN]; exact c.nd) hi hyl (by rw [sw_is c, q]) g2 g3 g4 g5 g6 g7
              rw [ownN_ix] at this
              exact this
            | _ => cases h4
        | _ => cases h
      | [], h => cases h
      | t :: _ :: _, h => cases t <;> cases h
    | _ => cases h
  | .par is es, st, c, hp, h => by
    cases st with
    | Assign ts v p =>
      match ts, h with
      | [t], h =>
        cases t with
        | Tuple es2 kt pt =>
          cases v with
          | Tuple vs k2 pt2 =>
            have h' : (parC sc es2 vs && ckNms N sc fn is es2 && ckEs M N es sc fn vs && (is.length == vs.length) && (is.length == 2 || is.length == 3) && decide is.Nodup) = true := h
            simp only [Bool.and_eq_true] at h'
            obtain ⟨⟨⟨⟨⟨h1, h2⟩, h3⟩, h4⟩, h5⟩, h6⟩ := h'
            have hpc := h1
            unfold parC at h1
            simp only [Bool.and_eq_true, Bool.not_eq_true'] at h1
            obtain ⟨⟨⟨⟨k1, k2'⟩, k3⟩, k4⟩, k5⟩ := h1
            have ndi := of_decide_eq_true h6
            have hl : is.length = vs.length := beq_iff_eq.mp h4
            have hl2 : es2.length = is.length := nms_len h2
            have sl := ckEs_ok es c k2' h3
            rcases (Bool.or_eq_true _ _).mp h5 with z | z
            · have z2 : is.length = 2 := beq_iff_eq.mp z
              match is, es2, vs, es, z2, hl2, hl with
              | [i, j], [t1, t2], [v1, v2], es, _, _, _ =>
                obtain ⟨x, px, rfl, hx, k1⟩ := nmsLoc_at k1
                obtain ⟨y, py, rfl, hy, _⟩ := nmsLoc_at k1
                obtain ⟨hi, h2⟩ := nms_at h2
                obtain ⟨hj, _⟩ := nms_at h2
                match es, h3, sl with
                | .cons a (.cons b .nil), _, sl =>
                  exact ss_par2 c.calm (by rw [c.hN]; exact c.nd) (by rw [c.hN]; exact hi) (by rw [c.hN]; exact hj) (by simp at ndi; exact ndi) (by rw [c.hsc]; exact hx) (by rw [c.hsc]; exact hy) sl (swst_some c hpc (.inl rfl) rfl)
                | .nil, h3, _ => cases h3
                | .cons a .nil, h3, _ => simp [ckEs] at h3
                | .cons a (.cons b (.cons d r)), h3, _ => simp [ckEs] at h3
            · have z2 : is.length = 3 := beq_iff_eq.mp z
              match is, es2, vs, es, z2, hl2, hl with
              | [i, j, l], [t1, t2, t3], [v1, v2, v3], es, _, _, _ =>
                obtain ⟨x, px, rfl, hx, k1⟩ := nmsLoc_at k1
                obtain ⟨y, py, rfl, hy, k1⟩ := nmsLoc_at k1
                obtain ⟨w, pw, rfl, hw, _⟩ := nmsLoc_at k1
                obtain ⟨hi, h2⟩ := nms_at h2
                obtain ⟨hj, h2⟩ := nms_at h2
                obtain ⟨hll, _⟩ := nms_at h2
                simp only [List.nodup_cons, List.mem_cons, List.not_mem_nil, or_false, not_or] at ndi
                match es, h3, sl with
                | .cons a (.cons b (.cons d .nil)), _, sl =>
                  exact ss_par3 c.calm (by rw [c.hN]; exact c.nd) (by rw [c.hN]; exact hi) (by rw [c.hN]; exact hj) (by rw [c.hN]; exact hll) ndi.1.1 ndi.1.2 ndi.2.1 (by rw [c.hsc]; exact hx) (by rw [c.hsc]; exact hy) (by rw [c.hsc]; exact hw) sl (swst_some c hpc (.inr rfl) rfl)
                | .nil, h3, _ => cases h3
                | .cons a .nil, h3, _ => simp [ckEs] at h3
                | .cons a (.cons b .nil), h3, _ => simp [ckEs] at h3
                | .cons a (.cons b (.cons d (.cons e r))), h3, _ => simp [ckEs] at h3
          | _ => cases h
        | _ => cases h
      | [], h => cases h
      | t :: _ :: _, h => cases t <;> cases v <;> cases h
    | _ => cases h
  | .unp is a, st, c, hp, h => by
    cases st with
    | Assign ts v p =>
      match ts, h with
      | [t], h =>
        cases t with
        | Tuple es2 kt pt =>
          have h' : (unpC sc es2 v && ckNms N sc fn is es2 && ckE M N a sc fn v) = true := h
          simp only [Bool.and_eq_true] at h'
          exact ss_unp c.calm (by rw [c.hN]; exact c.nd) (nms_of c h'.1.2) (ckE_ok a c h'.2).se (swst_none c h'.1.1) (show swapsWith v (some (.Tuple es2 kt pt)) p.line X.env = pure false from sw_tg rfl)
        | _ => cases h
      | [], h => cases h
      | t :: _ :: _, h => cases t <;> cases h
    | _ => cases h
  | .setA o f a, st, c, hp, h => by
    cases st with
    | Assign ts v p =>
      match ts, h with
      | [t], h =>
        cases t with
        | Attribute eo x px =>
          have h' : (decide (x = Str.ofString f) && ckE M N o sc fn eo && ckE M N a sc fn v) = true := h
          simp only [Bool.and_eq_true] at h'
          cases of_decide_eq_true h'.1.1
          exact ss_setA c.to (ckE_ok o c h'.1.2).se (ckE_ok a c h'.2).se (sw_tg rfl)
        | _ => cases h
      | [], h => cases h
      | t :: _ :: _, h => cases t <;> cases h
    | _ => cases h
  | .setI o i a, st, c, hp, h => by
    cases st with
    | Assign ts v p =>
      match ts, h with
      | [t], h =>
        cases t with
        | Subscript eo ei px =>
          have h' : (noSlice ei && ckE M N o sc fn eo && ckE M N i sc fn ei && ckE M N a sc fn v) = true := h
          simp only [Bool.and_eq_true] at h'
          obtain ⟨⟨⟨h1, h2⟩, h3⟩, h4⟩ := h'
          refine ss_setI (ckE_ok a c h4).se (ckE_ok o c h2).se (ckE_ok i c h3).se (show swapsWith v (some (.Subscript eo ei px)) p.line X.env = pure false from sw_tg rfl) rfl (fun u => ?_)
          cases ei <;> first | rfl | cases h1
        | _ => cases h
      | [], h => cases h
      | t :: _ :: _, h => cases t <;> cases h
    | _ => cases h
  | .aug i op a, st, c, hp, h => by
    cases st with
    | AugAssign t op' e p =>
      cases t with
      | Name x px =>
        have h' : (decide (op = op') && okAug op && decide (N[i]? = some x) && locC sc fn x && ckE M N a sc fn e) = true := h
        simp only [Bool.and_eq_true] at h'
        obtain ⟨⟨⟨⟨h1, h2⟩, h3⟩, h4⟩, h5⟩ := h'
        cases of_decide_eq_true h1
        have hi : X.N[i]? = some x := by rw [c.hN]; exact of_decide_eq_true h3
        have ga := (ckE_ok a c h5).se
        cases op with
        | Add =>
          refine ss_augI (f := fun i j => i + j) (by rw [c.hN]; exact c.nd) hi (loc_of c h4).1 ga (loc_of c h4).2 ip_add ?_
          rintro u w r e ⟨n, rfl⟩
          cases w with
          | int m =>
            have e' : some (EV.g (.int (n + m))) = some r := e
            exact ⟨n, m, rfl, rfl, (Option.some.inj e').symm⟩
          | _ => cases e
        | Sub =>
          refine ss_augI (f := fun i j => i - j) (by rw [c.hN]; exact c.nd) hi (loc_of c h4).1 ga (loc_of c h4).2 ip_sub ?_
          rintro u w r e ⟨n, rfl⟩
          cases w with
          | int m =>
            have e' : some (EV.g (.int (n - m))) = some r := e
            exact ⟨n, m, rfl, rfl, (Option.some.inj e').symm⟩
          | _ => cases e
        | _ => cases h2
      | _ => cases h
    | _ => cases h
  | .ife t a b, st, c, hp, h => by
    cases st with
    | If e x y p =>
      have h' : (ckE M N t sc fn e && ckSs M N sc fn a x && ckSs M N sc fn b y) = true := h
      simp only [Bool.and_eq_true] at h'
      exact ss_if (ckE_ok t c h'.1.1).st (ckSs_ok a c hp h'.1.2) (ckSs_ok b c hp h'.2)
    | _ => cases h
  | .for_ tg it b, st, c, hp, h => by
    cases st with
    | For t iter body els p =>
      cases els with
      | nil =>
        have h' : (noSet iter && ckG N sc fn tg t && ckI M N it sc fn iter && ckSs M N sc fn b body) = true := h
        simp only [Bool.and_eq_true] at h'
        exact ss_for hp c.calm (ckI_ok it c h'.1.2) (g_of c h'.1.1.2) (ckSs_ok b c hp h'.2) (fun x => set_ok h'.1.1.1)
      | cons _ _ => cases h
    | _ => cases h
  | .whl t b, st, c, hp, h => by
    cases st with
    | While e body els p =>
      cases els with
      | nil =>
        have h' : (ckE M N t sc fn e && ckSs M N sc fn b body) = true := h
        simp only [Bool.and_eq_true] at h'
        exact ss_whl hp (ckE_ok t c h'.1).st (ckSs_ok b c hp h'.2)
      | cons _ _ => cases h
    | _ => cases h
theorem ckSs_ok : ∀ (i : ISs) {st : List Stmt}, Ctx M N sc fn X cid fa T F k W → PassesOwn (model X.prog X.w) X.A X.env X.xe → ckSs M N sc fn i st = true → SB X cid W T F i st
  | .nil, st, c, hp, h => by
    cases st with
    | nil => exact sb_nil
    | cons _ _ => cases h
  | .cons a r, st, c, hp, h => by
    cases st with
    | nil => cases h
    | cons e es =>
      have h' : (ckS M N sc fn a e && ckSs M N sc fn r es) = true := h
      rw [Bool.and_eq_true] at h'
      exact sb_cons (ckS_ok a c hp h'.1) (ckSs_ok r c hp h'.2)
end
end
end GI
set_option Elab.async false
set_option linter.all false
set_option maxRecDepth 100000
/-! GI.Fns: each def of the text keeps its run's promise; the law's end. -/
namespace GI
open PySem PySem.Spec PyProof.Rows L2
section
variable {K : PySem.W.Frag} {cid : Nat → Addr} {T : Tab} {F : CF}
/-- a call's promise, from the callee's body -/
theorem body_G {f : Nat} {d : GF} {vs : List V} {H : Hp} {Q : VK} {E : XK} {N : List Str} (hd : T.fns f = some d) (hN : N.length = d.slots) (h : spOf K cid (runF T F) f d.arity vs H Q E) :
    tSs K cid (fun c dd _ H' => E c dd H') T F d.body { nx := fun _ H' => Q .non H', rt := Q } (L2.start N vs) H := by
  obtain ⟨hl, ρ, Rs, hp, gs, Fs, r, h⟩ := h
  unfold runF at h
  rw [hd] at h
  have hlen : gs.length = d.arity := r.length.trans hl
  simp only [hlen, if_true] at h
  obtain ⟨F1, hm⟩ := Fs.start (n := d.slots) r
  rw [hlen] at F1 hm
  have es : L2.start N vs = vs.map some ++ List.replicate (d.slots - vs.length) none := by unfold L2.start; rw [hN]
  rw [es]
  refine ⟨ρ, Rs, _, F1, ?_⟩
  have ext : ∀ {σ' : St} {s' : GS} {ρ' : List Addr} {H' : Hp}, Ext ρ ρ' (MM ρ (vs.map some ++ List.replicate (d.slots - vs.length) none) ⟨gs.map Sl.val ++ List.replicate (d.slots - d.arity) Sl.no, hp⟩) (MM ρ' σ' s') H H' →
      FSim K cid ρ' Rs H' σ' s' → Ext ρ ρ' (MM ρ [] (G0 hp)) (MM ρ' [] (G0 s'.h)) H H' := fun {σ' s' ρ' H'} e F' =>
    ⟨e.pre, fun p o n q => e.keep p o (fun z => n (hm p z)) q, e.dom, fun p z => (e.mb p ((FSim.end_ F').2.1 p z)).imp (hm p) id⟩
  cases q : evSs T F d.body ⟨gs.map Sl.val ++ List.replicate (d.slots - d.arity) Sl.no, hp⟩ with
  | bad => rw [q] at h; exact h
  | exc c fs s' =>
    rw [q] at h
    intro σ' ρ' H' dd l e F' hdd rf
    obtain ⟨F2, _, m2⟩ := F'.end_
    exact h ρ' H' dd l (ext e F') F2 hdd (RFs.mv m2 rf)
  | ok fl s' =>
    rw [q] at h
    intro σ' ρ' H' e F'
    obtain ⟨F2, _, m2⟩ := F'.end_
    cases fl with
    | nx => exact h ρ' H' .non (ext e F') F2 rfl
    | rt g => exact fun v rv => h ρ' H' v (ext e F') F2 (RV.mv m2 rv)
    | bk => exact h.elim
    | ct => exact h.elim
end
section
variable {P : Program} {w : World} {K : PySem.W.Frag} {mg : Str → Option Value} {base : Heap} {k : Nat}
/-- a def by its body, where no repr is under way -/
theorem fn_G {x qual : Str} {params : Arguments} {body : List Stmt} {scope : Scope} {dvs : List V} {kws : List (Str × V)} {f : Addr} {fd : FuncData} {N ps : List Str} {sp : Sp} (Fd : FunD K x qual params body scope dvs kws f fd) (S : FnScope N ps scope)
    (len : ∀ vs H Q E, sp vs H Q E → vs.length = ps.length)
    (hbody : ∀ (cdv : Value) (A : Around) (outer : List Env) (s : Shared) (H : Hp) (vs : List V) (Q : VK) (E : XK), A.guards = some [] → Room k (A.deeper (envOfC qual scope s.heap.objs.size f cdv)) → sp vs H Q E →
      ∃ t, PSs (cxOf (L2.CX P w) P w K mg base N qual scope f cdv A outer s H E) body t ∧ t { nx := fun _ H' => Q .non H', rt := Q } (L2.start N vs) H) : FnG P w K mg base (k + 1) f fd ps sp := by
  obtain ⟨oc, od, dV, kV, doc, pm, an, cdv, ct, osl, rfl, lk, hcd, _, _⟩ := Fd.ex
  constructor
  · exact len
  intro A outer s H args us vs Q E hgu room env bind hv hsp
  -- what stands of the text
  have inK : K.In s.heap := env.mod.kin.keeps fun b o e => (env.bs b o e).1
  have nolim : s.heap.NoLimit := env.mod.nolimit.keeps fun b o e => (env.bs b o e).1
  have kinds : ∀ y ∈ ps.zip us, scope.names.lookup y.1 = some .local ∨ (scope.names.lookup y.1 = some .cell ∧ ((cellsFrom (s.heap.objs.size + 1) scope.names []).lookup y.1).isSome = true) := by
    rintro ⟨y, u⟩ hy
    exact (S.par y (List.of_mem_zip hy).1).imp id fun c => ⟨c, PySem.W.cellsFrom_some _ _ _ (.inl c)⟩
  obtain ⟨t, body_t, at_t⟩ := hbody cdv A outer s H vs Q E hgu (room.deeper _) hsp
  refine codeAny_call_function room.depth (inK _ _ lk) rfl S.co S.gen rfl (PySem.W.codeRec_of inK hcd) (bind _ _ _ _ ?_)
  refine wpAny_newFunctionEnv_cells S.kind kinds ?_
  intro ev hev s1 inc
  subst hev
  have J0 : Inv (cxOf (L2.CX P w) P w K mg base N qual scope f cdv A outer s H E) [] (L2.start N vs) H s1 := inv_start S room.hd env (len _ _ _ _ hsp) hv inc
  refine ⟨nolim.keeps inc.toInCall.keep, codeAny_func (wpAny_mono (body_t.run [] s1 (L2.start N vs) H _ J0 at_t) ?_ fun _ _ z => z)⟩
  intro fl s' hs
  cases fl with
  | brk => obtain ⟨_, _, _, z⟩ := hs; exact z.elim
  | cont => obtain ⟨_, _, _, z⟩ := hs; exact z.elim
  | next =>
    obtain ⟨σ2, H2, J, z⟩ := hs
    exact ⟨V.non, H2, J.os, J.bare, J.base, J.hok, (rfl : RelV V.non Value.none), z⟩
  | ret u =>
    obtain ⟨v, σ2, H2, J, rv, z⟩ := hs
    exact ⟨v, H2, J.os, J.bare, J.base, J.hok, rv, z⟩
end
/-- a def of the text: what stands of it, what is decided of it -/
structure DefOk (K : PySem.W.Frag) (cid : Nat → Addr) (M : Nm) (d : GF) (a : Addr) (x qual : Str) (params : Arguments) (body : List Stmt) (scope : Scope) (dvs : List V) (kws : List (Str × V)) (fd : FuncData) (N ps : List Str) : Prop where
  fun_ : FunD K x qual params body scope dvs kws a fd
  sc : FnScope N ps scope
  slots : N.length = d.slots
  fs : FnS K cid d a fd ps
  ck : ckSs M N scope (fun _ => true) d.body body = true
structure ModOk (K : PySem.W.Frag) (mg : Str → Option Value) (cid fa : Nat → Addr) (M : Nm) (T : Tab) : Prop where
  def_ : ∀ f d, T.fns f = some d → ∃ x qual params body scope dvs kws fd N ps, DefOk K cid M d (fa f) x qual params body scope dvs kws fd N ps
  cl : ∀ c d, T.cls c = some d → ClsS K (cid c) d fa
  mf : ∀ c d m f, T.cls c = some d → d.meths.lookup m = some f → ∃ df, T.fns f = some df
  fns : ∀ f x, M.fns.lookup f = some x → ∃ d, T.fns f = some d ∧ mg x = some (.ref (fa f))
  cls : ∀ c x, M.cls.lookup c = some x → (T.cls c).isSome = true ∧ mg x = some (.ref (cid c)) ∧ PySem.W.keepIn K (.ref (cid c)) = true
  bls : ∀ x, M.bls.contains x = true → mg x = none
  cns : ∀ i x, M.cns.lookup i = some x → ∃ u v, mg x = some u ∧ RelV v u ∧ ConV K cid (T.con i) v
section
variable {P : Program} {w : World} {K : PySem.W.Frag} {mg : Str → Option Value} {base : Heap} {cid fa : Nat → Addr} {M : Nm} {T : Tab}
theorem fn_at (ok : ModOk K mg cid fa M T) {n f : Nat} {d : GF} {x qual : Str} {params : Arguments} {body : List Stmt} {scope : Scope} {dvs : List V} {kws : List (Str × V)} {fd : FuncData} {N ps : List Str} (hd : T.fns f = some d) (D : DefOk K cid M d (fa f) x qual params body scope dvs kws fd N ps)
    (to : TabOk P w K mg base cid fa T (run T n) (2 * n)) : FnG P w K mg base (2 * (n + 1)) (fa f) fd ps (spOf K cid (run T (n + 1)) f d.arity) := by
  show FnG P w K mg base (2 * n + 1 + 1) (fa f) fd ps (spOf K cid (runF T (run T n)) f d.arity)
  refine fn_G D.fun_ D.sc (fun vs H Q E h => h.1.trans D.fs.ar.symm) fun cdv A outer s H vs Q E hg hr h => ⟨_, ?_, body_G hd D.slots h⟩
  refine ckSs_ok d.body (sc := scope) (fn := fun _ => true) (M := M) (N := N) (fa := fa) (k := 2 * n) ?_ (passes_of rfl) D.ck
  exact ⟨rfl, D.sc.nd, rfl, D.sc.kind, fun _ _ => rfl, rfl, (by have := hr.un; show A.units + 3 + 65 < cLine; have : A.units + 3 + 16 * (2 * n + 1) + 200 < cLine := this; omega), hg, hr, to, takes_of rfl rfl rfl rfl, ok.fns, ok.cls, ok.bls, ok.cns⟩
theorem fns_ok (ok : ModOk K mg cid fa M T) : ∀ (n f : Nat) (d : GF), T.fns f = some d → ∃ fd ps, FnS K cid d (fa f) fd ps ∧ FnG P w K mg base (2 * n) (fa f) fd ps (spOf K cid (run T n) f d.arity)
  | 0, f, d, hd => by
    obtain ⟨x, qual, params, body, scope, dvs, kws, fd, N, ps, D⟩ := ok.def_ f d hd
    exact ⟨fd, ps, D.fs, ⟨fun vs H Q E h => h.1.trans D.fs.ar.symm, fun A outer s H args us vs Q E _ _ _ _ _ h => by
      obtain ⟨_, _, _, _, _, _, _, z⟩ := h
      exact z.elim⟩⟩
  | n + 1, f, d, hd => by
    obtain ⟨x, qual, params, body, scope, dvs, kws, fd, N, ps, D⟩ := ok.def_ f d hd
    have to : TabOk P w K mg base cid fa T (run T n) (2 * n) := ⟨fun g dg hg => fns_ok ok n g dg hg, ok.cl, ok.mf⟩
    exact ⟨fd, ps, D.fs, fn_at ok hd D to⟩
end
/-! ### the law's end -/
/-- nothing is tracked but the script -/
structure OneOf (K : PySem.W.Frag) (H : Hp) (a : Addr) (ns : List Int) : Prop where
  one : ∀ b, H b ≠ none → b = a
  scr : FLst K (fun _ => False) H a (ns.map V.int)
theorem callerA_G : callerA.guards = some [] := rfl
section
variable {P : Program} {w : World} {K : PySem.W.Frag} {mg mb : Str → Option Value} {k : Nat} {fa a : Addr} {fd : FuncData} {x : Str} {sp : Sp} {s₁ : Shared} {vs : List Value} {ns : List Int}
theorem law_G (KX : K.In s₁.heap) (hns : s₁.heap.Ns mainGlobals mg) (hb : s₁.heap.Ns builtinsNs mb) (hbb : ∀ x : Str, x ≠ "__name__" → mb x = bootBuiltins x) (hlim : s₁.heap.NoLimit) (hg : s₁.gens = #[])
    (ha : s₁.heap.get? a = some { cls := .type "list", data := .seq vs.toArray }) (hi : IntsAre vs ns) (hl : ns.length ≤ sizeLine) (hr : Room k callerA)
    (Fg : ∀ base : Heap, K.In base → base.Ns mainGlobals mg → FnG P w K mg base k fa fd [x] sp) (hbind : ∀ (s : Shared) (u : Value), K.In s.heap → BindsTo s fd ⟨[u], []⟩ [(x, u)])
    (hsp : ∀ H : Hp, OneOf K H a ns → sp [.ref a] H (fun v _ => v = .bl true) fun _ _ _ => False) :
    codeAny (model P w) callerA (.call (.ref fa) ⟨[.ref a], []⟩) (fun r s' => r = .ok (.ret (.bool true)) ∧ OldK s₁.heap s'.heap ∧ s'.os = s₁.os ∧ AllBare s'.gens) s₁ := by
  obtain ⟨oa, hoa⟩ : ∃ oa : Obj, oa = { cls := .type "list", data := .seq vs.toArray } := ⟨_, rfl⟩
  rw [← hoa] at ha
  have rv := vals_ints hi
  -- where nothing but the script may be tracked, and it is not where the text is
  have go : ∀ H : Hp, (∀ b u, H b = some u → b = a ∧ u = .frz oa (.lst (ns.map V.int)) ∧ K.lookup a = none) → OneOf K H a ns →
      codeAny (model P w) callerA (.call (.ref fa) ⟨[.ref a], []⟩) (fun r s' => r = .ok (.ret (.bool true)) ∧ OldK s₁.heap s'.heap ∧ s'.os = s₁.os ∧ AllBare s'.gens) s₁ := by
    intro H hH hO
    have hok : HOk P w H s₁.heap := by
      intro b u e
      obtain ⟨rfl, rfl, _⟩ := hH b u e
      exact ⟨ha, by rw [List.length_map]; exact hl, vs, _, rv, ha.trans (congrArg some hoa)⟩
    have free : ∀ b o, s₁.heap.get? b = some o → o ≠ oa → H b = none := by
      intro b o e n
      cases q : H b with
      | none => rfl
      | some u =>
        obtain ⟨rfl, _, _⟩ := hH b u q
        rw [ha] at e
        exact (n (Option.some.inj e).symm).elim
    have nsl : ∀ {b : Addr} {m : Str → Option Value}, s₁.heap.Ns b m → (hidT s₁.heap H).Ns b m := by
      rintro b m ⟨o, es, ep, e, d, r⟩
      refine ⟨o, es, ep, hidT_get e (free b o e fun z => ?_), d, r⟩
      rw [z, hoa] at d
      cases d
    have kl : K.In (hidT s₁.heap H) := fun b o e => hidT_get (KX b o e) (by
      cases q : H b with
      | none => rfl
      | some u =>
        obtain ⟨rfl, _, z⟩ := hH b u q
        rw [z] at e; cases e)
    have md : Mod K mg (hidT s₁.heap H) := ⟨kl, nsl hns, ⟨mb, nsl hb, hbb⟩, by obtain ⟨mc, h1, h2⟩ := hlim; exact ⟨mc, nsl h1, h2⟩⟩
    have ev : Env0 P w K mg (hidT s₁.heap H) callerA [] s₁ H := ⟨rfl, md, fun b o e => of_hidT e, Nat.le_of_eq (hidT_size _ _), trivial, fun b z => (nomatch z), hok, .of_eq hg⟩
    refine codeAny_mono ((Fg _ kl (nsl hns)).run callerA [] s₁ H ⟨[.ref a], []⟩ [.ref a] [.ref a] _ _ callerA_G hr ev (hbind s₁ (.ref a) KX) (.cons rfl .nil) (hsp H hO)) ?_
    intro r s' h
    cases r with
    | error e =>
      obtain ⟨_, _, _, _, _, _, _, _, _, _, _, _, z⟩ := (show L2.CX P w [] H s₁ (fun _ _ _ => False) e s' from h)
      exact z.elim
    | ok fl =>
      cases fl with
      | next => exact (show False from h).elim
      | brk => exact (show False from h).elim
      | cont => exact (show False from h).elim
      | ret u =>
        obtain ⟨v, H', eos, ebare, un, hok', rel, rfl⟩ := (show CE [] P w H s₁ (fun v _ => v = .bl true) u s' from h)
        cases (show u = Value.bool true from rel)
        refine ⟨rfl, OldK.of_keep fun b o e => ?_, eos, ebare⟩
        cases q : H b with
        | none => exact un.keep b o e q (fun z => nomatch z) (fun z => nomatch z)
        | some u =>
          obtain ⟨rfl, rfl, _⟩ := hH b u q
          have z2 : s'.heap.get? b = some oa := (hok' b _ (un.frzs b oa _ q)).1
          rw [ha] at e
          rw [z2, e]
  cases hk : K.lookup a with
  | some o =>
    have e := KX a o hk
    rw [ha] at e
    cases e
    refine go (fun _ => none) (fun b u z => by cases z) ⟨fun b z => (z rfl).elim, .inr ⟨_, vs.toArray, _, hk, congrArg Obj.cls hoa, congrArg Obj.dict hoa, congrArg Obj.data hoa, by rw [List.size_toArray, hi.length]; exact hl, by simpa using rv⟩⟩
  | none =>
    refine go (fun b => if b = a then some (.frz oa (.lst (ns.map V.int))) else none) (fun b u z => ?_) ⟨fun b z => ?_, .inl ⟨id, oa, if_pos rfl⟩⟩
    · by_cases n : b = a
      · have z' := (if_pos n).symm.trans z
        cases z'
        exact ⟨n, rfl, hk⟩
      · have z' := (if_neg n).symm.trans z
        cases z'
    · by_cases n : b = a
      · exact n
      · exact (z (if_neg n)).elim
end
/-- the law's walk, from its run: at every script -/
theorem walk_G {l : PySem.W.OpenLaw} {n k : Nat} {q : Program} {loose : List Str} {XP : (Str → Option Value) → Heap → Prop} {YP : World → Heap → Prop} {d : DefRec} {x : Str}
    (hn : l.most = some n) (hn2 : n ≤ sizeLine) (hdf : d.params.defaults = []) (hr : Room k callerA)
    (Fw : ∀ (w : World) (mg : Str → Option Value) (f : Addr) (h : Heap), YP w h → h.Ns mainGlobals mg → mg d.name = some (.ref f) →
      ∃ (K : PySem.W.Frag) (fd : FuncData) (sp : Sp), K.In h ∧ (∀ (s : Shared) (u : Value), K.In s.heap → BindsTo s fd ⟨[u], []⟩ [(x, u)]) ∧
        (∀ (H : Hp) (a : Addr) (ns : List Int), ns.length ≤ n → (∀ z ∈ ns, Builtin.Int.intBits z ≤ 1048576) → OneOf K H a ns → sp [.ref a] H (fun v _ => v = .bl true) fun _ _ _ => False) ∧
        ∀ base : Heap, K.In base → base.Ns mainGlobals mg → FnG l.prog w K mg base k f fd [x] sp) :
    PySem.W.WalkO q loose XP YP l.row.toRowW d [] (fun f vs => PySem.call f vs) := by
  refine Att.attach_callB hn hdf ?_
  intro w s₀ s₁ mg mb f o pm cd doc a vs ns G Y ho hd hcd hmg hobj hints hlen hbits hg
  obtain ⟨K, fd, sp, KX, hb, hsp, hF⟩ := Fw w mg f _ Y G.T.g hmg
  exact law_G KX G.T.g G.T.b G.T.builtins G.T.nolimit hg hobj hints (Nat.le_trans hlen hn2) hr hF hb (fun H hO => hsp H a ns hlen hbits hO)
/-- a law's promise, from its run -/
theorem law_run {K : PySem.W.Frag} {cid : Nat → Addr} {F : CF} {f : Nat} {H : Hp} {a : Addr} {ns : List Int} {h' : List GO} (hO : OneOf K H a ns) (e : F f [.scr ns] [] = .ok (.bl true) h') : spOf K cid F f 1 [.ref a] H (fun v _ => v = .bl true) fun _ _ _ => False := by
  refine ⟨rfl, [], fun _ => False, [], [.scr ns], ⟨rfl, rfl, fun i o p z => by simp at z, fun i j o o' p z => by simp at z, fun i g z => by simp at z, fun i o z => by simp at z, fun i j o o' p z => by simp at z, fun p z => z.elim⟩, ⟨_, _, rfl, ⟨a, rfl, ?_⟩, rfl⟩, ?_⟩
  · rcases hO.scr with ⟨_, o, h⟩ | h
    · refine .inl ⟨fun z => ?_, o, h⟩
      rcases z with z | z | ⟨i, o2, z, _⟩
      · exact z
      · obtain ⟨i, o2, z, _⟩ := z
        simp at z
      · simp at z
    · exact .inr h
  · rw [e]
    exact fun ρ' H' v _ _ rv => rv
end GI
set_option Elab.async false
set_option linter.all false
set_option maxRecDepth 100000
/-! GI.Mdl: the module's tables, from the head's facts. -/
namespace GI
open PySem PySem.Spec PyProof.Rows L2
structure Dt where
  d : He.DefD
  g : GF
  N : List Str
  ps : List Str
def dvB : GV → He.Dv → Bool
  | .non, .non => true
  | .bl b, .bl c => b == c
  | .int i, .int j => decide (i = j)
  | .str x, .str y => decide (x = y)
  | _, _ => false
theorem dvB_ok {K : PySem.W.Frag} {cid : Nat → Addr} {g : GV} {v : He.Dv} (h : dvB g v = true) : ConV K cid g (v.v K) := by
  intro ρ U H
  cases g <;> cases v <;> first | cases h | skip
  · exact (rfl : V.non = V.non)
  · cases (beq_iff_eq.mp h); exact (rfl : _ = _)
  · cases (of_decide_eq_true h); exact (rfl : _ = _)
  · cases (of_decide_eq_true h); exact (rfl : _ = _)
def SrcB (dfl : List He.Dv) (us ws its : List Value) : Src → Value → Prop
  | .pos i, u => us[i]? = some u
  | .kw j, u => ws[j]? = some u
  | .dfl g, u => ∃ (i : Nat) (dv : He.Dv), dfl[i]? = some dv ∧ its[i]? = some u ∧ dvB g dv = true
/-- how a call of the shape binds: a def without defaults; one with -/
def Bind0 (t : Dt) (sh : (Nat × List String) × List Src) : Prop := ∀ (kV doc pm : Value) (an : Option Addr) (cdv ct : Value) (us ws : List Value), us.length = sh.1.1 → ws.length = sh.1.2.length →
  ∃ full, bindArgs (PySem.W.fnOf t.d.name t.d.qual t.d.params t.d.body t.d.scope .none kV doc pm an cdv ct) ⟨us, (sh.1.2.map Str.ofString).zip ws⟩ = pure (t.ps.zip full) ∧ Paired (SrcB [] us ws []) sh.2 full
def BindD (t : Dt) (sh : (Nat × List String) × List Src) : Prop := ∀ (T : Addr) (kV doc pm : Value) (an : Option Addr) (cdv ct : Value) (us ws its : List Value), us.length = sh.1.1 → ws.length = sh.1.2.length → its.length = t.d.dfl.length →
  ∃ full k, bindArgs (PySem.W.fnOf t.d.name t.d.qual t.d.params t.d.body t.d.scope (.ref T) kV doc pm an cdv ct) ⟨us, (sh.1.2.map Str.ofString).zip ws⟩ = seqItems? (.ref T) >>= k ∧ k (some its.toArray) = pure (t.ps.zip full) ∧ Paired (SrcB t.d.dfl us ws its) sh.2 full
def BindOk (t : Dt) : Prop := (t.d.dfl = [] ∧ ∀ sh ∈ t.g.shapes, Bind0 t sh) ∨ (t.d.dfl ≠ [] ∧ ∀ sh ∈ t.g.shapes, BindD t sh)
theorem mem_lookup {α β : Type} [BEq α] [LawfulBEq α] {k : α} {v : β} : ∀ {l : List (α × β)}, l.lookup k = some v → (k, v) ∈ l
  | [], h => by cases h
  | (a, b) :: r, h => by
    rw [List.lookup_cons] at h
    cases q : (k == a) with
    | true => rw [q] at h; cases h; rw [eq_of_beq q]; exact List.mem_cons_self
    | false => rw [q] at h; exact List.mem_cons_of_mem _ (mem_lookup h)
theorem paired_imp {α β : Type} {G G' : α → β → Prop} (h : ∀ a b, G a b → G' a b) : ∀ {l : List α} {m : List β}, Paired G l m → Paired G' l m
  | _, _, .nil => .nil
  | _, _, .cons a r => .cons (h _ _ a) (paired_imp h r)
theorem vals_at {vs : List V} {us : List Value} {i : Nat} {u : Value} (h : Vals vs us) (e : us[i]? = some u) : ∃ v, vs[i]? = some v ∧ RelV v u := by
  have hl := h.length
  have hi : i < vs.length := by rw [hl]; exact (List.getElem?_eq_some_iff.mp e).1
  obtain ⟨u', e', r⟩ := h.get (List.getElem?_eq_getElem hi)
  rw [e] at e'; cases e'
  exact ⟨_, List.getElem?_eq_getElem hi, r⟩
theorem fnS_of {K : PySem.W.Frag} {cid : Nat → Addr} {t : Dt} {a : Addr} {fd : FuncData} (F : FunD K t.d.name t.d.qual t.d.params t.d.body t.d.scope (t.d.dvs K) (t.d.kws K) a fd) (hb : BindOk t) (har : t.ps.length = t.g.arity) (hlen : ∀ sh ∈ t.g.shapes, sh.2.length = t.g.arity) :
    FnS K cid t.g a fd t.ps := by
  refine ⟨har, F.kp, fun n ks src h => hlen _ (mem_lookup h), fun n ks src h s us ws hK l1 l2 => ?_⟩
  have hm := mem_lookup h
  obtain ⟨oc, od, dV, kV, doc, pm, an, cdv, ct, osl, rfl, lk, hcd, hD, hKw⟩ := F.ex
  rcases hb with ⟨e, hb⟩ | ⟨e, hb⟩
  · rcases hD with ⟨_, rfl⟩ | ⟨e2, _⟩
    · obtain ⟨full, h1, h2⟩ := hb _ hm kV doc pm an cdv ct us ws l1 l2
      refine ⟨full, .of_eq h1, paired_imp (fun s u q => ?_) h2⟩
      cases s with
      | pos i => exact q
      | kw j => exact q
      | dfl g => obtain ⟨i, dv, z, _⟩ := q; simp at z
    · exact (e2 (by unfold He.DefD.dvs; rw [e]; rfl)).elim
  · rcases hD with ⟨e2, _⟩ | ⟨_, Ta, o, its, m, rfl, lT, oT, rT⟩
    · exact (e (List.map_eq_nil_iff.mp e2)).elim
    · obtain ⟨full, k, h1, h2, h3⟩ := hb _ hm Ta kV doc pm an cdv ct us ws its l1 l2 (by rw [← rT.length]; unfold He.DefD.dvs; rw [List.length_map])
      refine ⟨full, BindsTo.of_looks fun M => by rw [h1]; exact looks_items hK lT oT (.of_pure h2), paired_imp (fun s u q => ?_) h3⟩
      cases s with
      | pos i => exact q
      | kw j => exact q
      | dfl g =>
        obtain ⟨i, dv, z1, z2, z3⟩ := q
        obtain ⟨v, y1, y2⟩ := vals_at rT z2
        unfold He.DefD.dvs at y1
        rw [List.getElem?_map, z1] at y1
        cases y1
        exact ⟨_, y2, dvB_ok z3⟩
/-! ### what is decided of a def -/
def fnScB (N P : List Str) (sc : Scope) : Bool := decide (sc.kind = .function) && (sc.isCoroutine == false) && (sc.isGenerator == false) && decide N.Nodup && decide (N.take P.length = P) &&
  (P.all fun x => match sc.names.lookup x with
    | some .local => true
    | some .cell => true
    | _ => false) && (sc.names.all fun y => match y.2 with
    | .free => false
    | _ => true)
theorem fnSc_ok {N P : List Str} {sc : Scope} (h : fnScB N P sc = true) : FnScope N P sc := by
  unfold fnScB at h
  simp only [Bool.and_eq_true] at h
  obtain ⟨⟨⟨⟨⟨⟨h1, h2⟩, h3⟩, h4⟩, h5⟩, h6⟩, h7⟩ := h
  refine ⟨of_decide_eq_true h1, beq_iff_eq.mp h2, beq_iff_eq.mp h3, of_decide_eq_true h4, of_decide_eq_true h5, fun x hx => ?_, fun y hy e => ?_⟩
  · have := List.all_eq_true.mp h6 x hx
    split at this
    · rename_i q; exact .inl q
    · rename_i q; exact .inr q
    · cases this
  · have := List.all_eq_true.mp h7 y hy
    rw [e] at this; cases this
def Dt.ok (M : Nm) (t : Dt) : Bool := fnScB t.N t.ps t.d.scope && (t.N.length == t.g.slots) && (t.ps.length == t.g.arity) && (t.g.shapes.all fun sh => sh.2.length == t.g.arity) && ckSs M t.N t.d.scope (fun _ => true) t.g.body t.d.body
/-! ### the module -/
/-- a constant of the module -/
inductive CV where
  | int (i : Int) | str (x : Str)
def CV.g : CV → GV
  | .int i => .int i
  | .str x => .str x
structure Md where
  M : Nm
  dts : List Dt
  cls : List (Str × GC)
  con : List (Str × CV)
def Md.T (m : Md) : Tab := ⟨fun c => (m.cls[c]?).map (·.2), fun f => (m.dts[f]?).map (·.g), fun i => match m.con[i]? with
  | some p => p.2.g
  | none => .unk⟩
def Md.fa (m : Md) (K : PySem.W.Frag) (f : Nat) : Addr := match m.dts[f]? with
  | some t => He.fAd K t.d.at_
  | none => 0
def Md.cid (m : Md) (K : PySem.W.Frag) (c : Nat) : Addr := match m.cls[c]? with
  | some p => He.ga K p.1
  | none => 0
def clsFa (p : Str × GC) : List He.Fa := [.glo p.1, .cls p.1] ++ (match p.2.init with
  | some _ => [.mkr p.1]
  | none => []) ++ p.2.atts.map (fun f => .noat p.1 (Str.ofString f)) ++ p.2.meths.map (fun q => .meth p.1 (Str.ofString q.1))
def CV.fa (x : Str) : CV → He.Fa
  | .int i => .int x i
  | .str z => .str x z
def Md.facts (m : Md) : List He.Fa := m.M.fns.map (fun p => .glo p.2) ++ m.M.bls.map .free ++ m.cls.flatMap clsFa ++ m.con.map (fun p => p.2.fa p.1)
def Md.fn (m : Md) : List He.DefD := m.dts.map (·.d)
def Md.nmB (m : Md) : Bool := (m.M.fns.all fun p => match m.dts[p.1]? with
    | some t => decide (t.d.at_ = (p.2, none))
    | none => false) && (m.M.cls.all fun p => match m.cls[p.1]? with
    | some q => decide (q.1 = p.2) && q.2.init.isSome
    | none => false) && (m.M.cns.all fun p => match m.con[p.1]? with
    | some q => decide (q.1 = p.2)
    | none => false) && (m.cls.all fun q => (q.2.meths.all fun r => match m.dts[r.2]? with
      | some t => decide (t.d.at_ = (q.1, some (Str.ofString r.1)))
      | none => false) && (match q.2.init with
      | some f => (match m.dts[f]? with
        | some t => decide (t.d.at_ = (q.1, some (Str.ofString "__init__")))
        | none => false)
      | none => true))
theorem fact_mem {fa : List He.Fa} {fn : List He.DefD} {K : PySem.W.Frag} (c : He.SaysD fa fn K) {f : He.Fa} (h : f ∈ fa) : f.ok K = true := by
  obtain ⟨i, hi⟩ := List.mem_iff_getElem?.mp h
  exact c.fact i hi
theorem mod_of {m : Md} {K : PySem.W.Frag} {h : Heap} {mg : Str → Option Value} (X : K.In h) (G : h.Ns mainGlobals mg) (c : He.SaysD m.facts m.fn K) (hn : m.nmB = true) (hd : ∀ t ∈ m.dts, t.ok m.M = true) (hb : ∀ t ∈ m.dts, BindOk t) :
    ModOk K mg (m.cid K) (m.fa K) m.M m.T := by
  unfold Md.nmB at hn
  simp only [Bool.and_eq_true] at hn
  obtain ⟨⟨⟨n1, n2⟩, n3⟩, n4⟩ := hn
  have inF : ∀ f, f ∈ m.M.fns.map (fun p => He.Fa.glo p.2) → f.ok K = true := fun f hf => fact_mem c (List.mem_append_left _ (List.mem_append_left _ (List.mem_append_left _ hf)))
  have inB : ∀ f, f ∈ m.M.bls.map He.Fa.free → f.ok K = true := fun f hf => fact_mem c (List.mem_append_left _ (List.mem_append_left _ (List.mem_append_right _ hf)))
  have inC : ∀ p ∈ m.cls, ∀ f ∈ clsFa p, f.ok K = true := fun p hp f hf => fact_mem c (List.mem_append_left _ (List.mem_append_right _ (List.mem_flatMap.mpr ⟨p, hp, hf⟩)))
  have inK : ∀ p ∈ m.con, (p.2.fa p.1).ok K = true := fun p hp => fact_mem c (List.mem_append_right _ (List.mem_map.mpr ⟨p, hp, rfl⟩))
  refine ⟨fun f d e => ?_, fun ci d e => ?_, fun ci d mm f e e2 => ?_, fun f x e => ?_, fun ci x e => ?_, fun x e => ?_, fun i x e => ?_⟩
  · cases q : m.dts[f]? with
    | none => rw [show m.T.fns f = (m.dts[f]?).map (·.g) from rfl, q] at e; cases e
    | some t =>
      rw [show m.T.fns f = (m.dts[f]?).map (·.g) from rfl, q] at e
      cases e
      have ht := List.mem_of_getElem? q
      have ok := hd t ht
      unfold Dt.ok at ok
      simp only [Bool.and_eq_true] at ok
      obtain ⟨⟨⟨⟨o1, o2⟩, o3⟩, o4⟩, o5⟩ := ok
      obtain ⟨fd, F⟩ := c.def_ f (d := t.d) (by unfold Md.fn; rw [List.getElem?_map, q]; rfl)
      have hfa : m.fa K f = He.fAd K t.d.at_ := by unfold Md.fa; rw [q]
      rw [hfa]
      exact ⟨_, _, _, _, _, _, _, fd, t.N, t.ps, ⟨F, fnSc_ok o1, beq_iff_eq.mp o2, fnS_of F (hb t ht) (beq_iff_eq.mp o3) (fun sh hs => beq_iff_eq.mp (List.all_eq_true.mp o4 sh hs)), o5⟩⟩
  · cases q : m.cls[ci]? with
    | none => rw [show m.T.cls ci = (m.cls[ci]?).map (·.2) from rfl, q] at e; cases e
    | some p =>
      rw [show m.T.cls ci = (m.cls[ci]?).map (·.2) from rfl, q] at e
      cases e
      have hp := List.mem_of_getElem? q
      have hc : m.cid K ci = He.ga K p.1 := by unfold Md.cid; rw [q]
      rw [hc]
      have n5 := List.all_eq_true.mp n4 p hp
      simp only [Bool.and_eq_true] at n5
      have fx : ∀ {f : Nat} {z : Str}, (match m.dts[f]? with
        | some t => decide (t.d.at_ = (p.1, some z))
        | none => false) = true → m.fa K f = He.ma K (He.ga K p.1) z := fun {f z} h => by
        unfold Md.fa
        cases q2 : m.dts[f]? with
        | none => rw [q2] at h; cases h
        | some t => rw [q2] at h; simp only; rw [of_decide_eq_true h]; rfl
      refine ⟨He.cls_ok (inC p hp _ (by unfold clsFa; simp)), fun mm f e => ?_, fun f e => ?_, fun f e => ?_⟩
      · have hm := mem_lookup e
        rw [fx (List.all_eq_true.mp n5.1 _ hm)]
        exact He.meth_ok (inC p hp _ (by unfold clsFa; exact List.mem_append_right _ (List.mem_map.mpr ⟨_, hm, rfl⟩)))
      · exact He.noat_ok (inC p hp _ (by unfold clsFa; exact List.mem_append_left _ (List.mem_append_right _ (List.mem_map.mpr ⟨f, by simpa using e, rfl⟩))))
      · have h2 := n5.2
        rw [e] at h2
        rw [fx h2]
        exact He.mkr_ok (inC p hp _ (by unfold clsFa; rw [e]; simp))
  · cases q : m.cls[ci]? with
    | none => rw [show m.T.cls ci = (m.cls[ci]?).map (·.2) from rfl, q] at e; cases e
    | some p =>
      rw [show m.T.cls ci = (m.cls[ci]?).map (·.2) from rfl, q] at e
      cases e
      have n5 := List.all_eq_true.mp n4 p (List.mem_of_getElem? q)
      simp only [Bool.and_eq_true] at n5
      have := List.all_eq_true.mp n5.1 _ (mem_lookup e2)
      cases q2 : m.dts[f]? with
      | none => simp only [q2] at this; cases this
      | some t => exact ⟨t.g, by show (m.dts[f]?).map (·.g) = _; rw [q2]; rfl⟩
  · have hm := mem_lookup e
    have := List.all_eq_true.mp n1 _ hm
    cases q2 : m.dts[f]? with
    | none => simp only [q2] at this; cases this
    | some t =>
      simp only [q2] at this
      refine ⟨t.g, by show (m.dts[f]?).map (·.g) = _; rw [q2]; rfl, ?_⟩
      have hfa : m.fa K f = He.ga K x := by unfold Md.fa; rw [q2]; simp only; rw [of_decide_eq_true this]; rfl
      rw [hfa]
      exact He.glo_ok X G (inF _ (List.mem_map.mpr ⟨_, hm, rfl⟩))
  · have hm := mem_lookup e
    have := List.all_eq_true.mp n2 _ hm
    cases q2 : m.cls[ci]? with
    | none => simp only [q2] at this; cases this
    | some p =>
      simp only [q2, Bool.and_eq_true] at this
      have hp := List.mem_of_getElem? q2
      have e1 : p.1 = x := of_decide_eq_true this.1
      have hc : m.cid K ci = He.ga K p.1 := by unfold Md.cid; rw [q2]
      cases qi : p.2.init with
      | none => rw [qi] at this; cases this.2
      | some f =>
        have mk := He.mkr_ok (inC p hp (.mkr p.1) (by unfold clsFa; rw [qi]; simp))
        refine ⟨by show ((m.cls[ci]?).map (·.2)).isSome = true; rw [q2]; rfl, ?_, by rw [hc]; exact mk.kp⟩
        rw [hc, ← e1]
        exact He.glo_ok X G (inC p hp _ (by unfold clsFa; simp))
  · exact He.free_ok X G (inB _ (List.mem_map.mpr ⟨x, by simpa using e, rfl⟩))
  · have hm := mem_lookup e
    have := List.all_eq_true.mp n3 _ hm
    cases q2 : m.con[i]? with
    | none => simp only [q2] at this; cases this
    | some p =>
      simp only [q2] at this
      have e1 : p.1 = x := of_decide_eq_true this
      have k := inK p (List.mem_of_getElem? q2)
      have hT : m.T.con i = p.2.g := by
        unfold Md.T
        simp only
        rw [q2]
      rw [hT, ← e1]
      obtain ⟨px, pv⟩ := p
      cases pv with
      | int j =>
        obtain ⟨t, e3⟩ := He.int_ok X G k
        exact ⟨_, .int j, e3, ⟨t, rfl⟩, fun _ _ _ => rfl⟩
      | str z =>
        obtain ⟨t, e3⟩ := He.str_ok X G k
        exact ⟨_, .str z, e3, ⟨t, rfl⟩, fun _ _ _ => rfl⟩
/-- the law's walk, from its run -/
theorem law_end {m : Md} {l : PySem.W.OpenLaw} {q : Program} {loose : List Str} {XP : (Str → Option Value) → Heap → Prop} {d : DefRec} {x : Str} {li hn n0 : Nat} {t : Dt} (hl : l.most = some 63) (hdf : d.params.defaults = []) (hr : Room (2 * (n0 + 1)) callerA)
    (ht : m.dts[li]? = some t) (hps : t.ps = [x]) (har : t.g.arity = 1) (hsh : t.g.shapes.lookup (1, []) = some [.pos 0]) (hdn : t.d.at_ = (d.name, none)) (hdm : m.M.fns.lookup li = some d.name)
    (hnm : m.nmB = true) (hok : ∀ t ∈ m.dts, t.ok m.M = true) (hb : ∀ t ∈ m.dts, BindOk t)
    (hrun : ∀ ns : List Int, ns.length ≤ 63 → (∀ z ∈ ns, Builtin.Int.intBits z ≤ 1048576) → ∃ h', run m.T (n0 + 1) li [.scr ns] [] = .ok (.bl true) h') :
    PySem.W.WalkO q loose XP (He.hookD hn m.facts m.fn).says l.row.toRowW d [] (fun f vs => PySem.call f vs) := by
  refine walk_G (k := 2 * (n0 + 1)) (x := x) hl (by decide) hdf hr fun w mg f h Y G hmg => ?_
  obtain ⟨K, KX, c⟩ := Y
  have ok := mod_of KX G c hnm hok hb
  obtain ⟨gd, hgd, hm⟩ := ok.fns li d.name hdm
  have hfa : m.fa K li = f := by rw [hmg] at hm; cases hm; rfl
  have e : m.T.fns li = some t.g := by show (m.dts[li]?).map (·.g) = _; rw [ht]; rfl
  obtain ⟨x', qual, params, body, scope, dvs, kws, fd, N, ps, D⟩ := ok.def_ li t.g e
  have hp1 : ps.length = 1 := D.fs.ar.trans har
  -- the parameter's name: the def's own
  have ok1 := hok t (List.mem_of_getElem? ht)
  obtain ⟨fd2, F2⟩ := c.def_ li (d := t.d) (by unfold Md.fn; rw [List.getElem?_map, ht]; rfl)
  unfold Dt.ok at ok1
  simp only [Bool.and_eq_true] at ok1
  obtain ⟨⟨⟨⟨o1, o2⟩, o3⟩, o4⟩, o5⟩ := ok1
  have hfa2 : m.fa K li = He.fAd K t.d.at_ := by unfold Md.fa; rw [ht]
  have D2 : DefOk K (m.cid K) m.M t.g (m.fa K li) t.d.name t.d.qual t.d.params t.d.body t.d.scope (t.d.dvs K) (t.d.kws K) fd2 t.N t.ps := by
    rw [hfa2]
    exact ⟨F2, fnSc_ok o1, beq_iff_eq.mp o2, fnS_of F2 (hb t (List.mem_of_getElem? ht)) (beq_iff_eq.mp o3) (fun sh hs => beq_iff_eq.mp (List.all_eq_true.mp o4 sh hs)), o5⟩
  rw [hfa] at D2
  refine ⟨K, fd2, spOf K (m.cid K) (run m.T (n0 + 1)) li 1, KX, fun s u hK => ?_, fun H a ns h1 h2 hO => ?_, fun base hKb hGb => ?_⟩
  · obtain ⟨full, b1, b2⟩ := D2.fs.bind 1 [] [.pos 0] hsh s [u] [] hK rfl rfl
    cases b2 with
    | cons q r =>
      cases r
      have e2 : some u = some _ := q
      cases e2
      rw [hps] at b1
      exact b1
  · obtain ⟨h', e2⟩ := hrun ns h1 h2
    exact law_run hO e2
  · have := fn_at (P := l.prog) (w := w) (base := base) (n := n0) ok e (by rw [hfa]; exact D2) ⟨fun g dg hg => fns_ok ok n0 g dg hg, ok.cl, ok.mf⟩
    rw [hfa, har, hps] at this
    exact this
end GI
set_option Elab.async false
set_option linter.all false
set_option maxRecDepth 100000
/-! GI.Smp: the interpreter, by rewriting. -/
noncomputable section
namespace GI
open PySem PySem.Spec PyProof.Rows L2
section
variable {T : Tab} {F : CF} {s : GS} {m : Bool}
/-! ### states -/
@[simp] theorem fz_g (v : GV) : fz s (.g v) = (v, s) := (rfl)
@[simp] theorem fz_new (o : GO) : fz s (.new o) = (o.fz, s) := (rfl)
@[simp] theorem fzo_lst (xs : List GV) : (GO.lst xs).fz = .lst xs := (rfl)
@[simp] theorem fzs_nil : fzs s [] = ([], s) := (rfl)
@[simp] theorem fzs_g (v : GV) (r : List EV) : fzs s (.g v :: r) = (v :: (fzs s r).1, (fzs s r).2) := (rfl)
@[simp] theorem fzs_new (o : GO) (r : List EV) : fzs s (.new o :: r) = (o.fz :: (fzs s r).1, (fzs s r).2) := (rfl)
@[simp] theorem fzs_slot (i : Nat) (r : List EV) : fzs s (.slot i :: r) = ((fz s (.slot i)).1 :: (fzs (fz s (.slot i)).2 r).1, (fzs (fz s (.slot i)).2 r).2) := (rfl)
@[simp] theorem rd_new (o : GO) : rd s (.new o) = o.fz := (rfl)
@[simp] theorem rd_int (i : Int) : rd s (.g (.int i)) = .int i := (rfl)
@[simp] theorem rd_bl (i : Bool) : rd s (.g (.bl i)) = .bl i := (rfl)
@[simp] theorem rd_str (i : Str) : rd s (.g (.str i)) = .str i := (rfl)
@[simp] theorem rd_non : rd s (.g .non) = .non := (rfl)
@[simp] theorem rd_lst (i : List GV) : rd s (.g (.lst i)) = .lst i := (rfl)
@[simp] theorem rd_tup (i : List GV) : rd s (.g (.tup i)) = .tup i := (rfl)
@[simp] theorem rd_scr (i : List Int) : rd s (.g (.scr i)) = .scr i := (rfl)
@[simp] theorem rd_obj (c : Nat) (i : List (String × GV)) : rd s (.g (.obj c i)) = .obj c i := (rfl)
@[simp] theorem rdv_int (h : List GO) (i : Int) : rdv h (.int i) = .int i := (rfl)
@[simp] theorem rdv_bl (h : List GO) (i : Bool) : rdv h (.bl i) = .bl i := (rfl)
@[simp] theorem rdv_str (h : List GO) (i : Str) : rdv h (.str i) = .str i := (rfl)
@[simp] theorem rdv_non (h : List GO) : rdv h .non = .non := (rfl)
@[simp] theorem rdv_lst (h : List GO) (i : List GV) : rdv h (.lst i) = .lst i := (rfl)
@[simp] theorem rdv_tup (h : List GO) (i : List GV) : rdv h (.tup i) = .tup i := (rfl)
@[simp] theorem rdv_scr (h : List GO) (i : List Int) : rdv h (.scr i) = .scr i := (rfl)
def rdSl (h : List GO) : Option Sl → GV
  | some (.own o) => o.fz
  | some (.val v) => rdv h v
  | _ => .unk
def fzSl (s : GS) (i : Nat) : Option Sl → GV × GS
  | some (.own o) => (o.fz, { s with σ := s.σ.set i (.val o.fz) })
  | some (.val v) => (v, s)
  | _ => (.unk, s)
@[simp] theorem rdSl_own (h : List GO) (o : GO) : rdSl h (some (.own o)) = o.fz := (rfl)
@[simp] theorem rdSl_val (h : List GO) (v : GV) : rdSl h (some (.val v)) = rdv h v := (rfl)
@[simp] theorem fzSl_own (i : Nat) (o : GO) : fzSl s i (some (.own o)) = (o.fz, { s with σ := s.σ.set i (.val o.fz) }) := (rfl)
@[simp] theorem rd_slot (i : Nat) : rd s (.slot i) = rdSl s.h s.σ[i]? := by
  show (match s.σ[i]? with
    | some (.own o) => o.fz
    | some (.val v) => rdv s.h v
    | _ => .unk) = _
  cases s.σ[i]? with
  | none => rfl
  | some x => cases x <;> rfl
@[simp] theorem fz_slot (i : Nat) : fz s (.slot i) = fzSl s i s.σ[i]? := by
  show (match s.σ[i]? with
    | some (.own o) => (o.fz, { s with σ := s.σ.set i (.val o.fz) })
    | some (.val v) => (v, s)
    | _ => (.unk, s)) = _
  cases s.σ[i]? with
  | none => rfl
  | some x => cases x <;> rfl
theorem upo_slot {i : Nat} {o o' : GO} {r : GV} {f : GO → Option (GV × GO)} {σ : List Sl} {h : List GO} (e : σ[i]? = some (.own o)) (ef : f o = some (r, o')) : upo (.slot i) f ⟨σ, h⟩ = .ok (.g r) ⟨σ.set i (.own o'), h⟩ := by
  simp [upo, cont, recont, e, ef]
theorem upo_ref {a : Nat} {o o' : GO} {r : GV} {f : GO → Option (GV × GO)} {σ : List Sl} {h : List GO} (e : h[a]? = some o) (ef : f o = some (r, o')) : upo (.g (.ref a)) f ⟨σ, h⟩ = .ok (.g r) ⟨σ, h.set a o'⟩ := by
  simp [upo, cont, recont, e, ef]
@[simp] theorem pin_g (v : GV) : pin s (.g v) = (.g v, s) := (rfl)
@[simp] theorem pin_new (o : GO) : pin s (.new o) = (.new o, s) := (rfl)
@[simp] theorem pin_slot (i : Nat) : pin s (.slot i) = (.g (fz s (.slot i)).1, (fz s (.slot i)).2) := (rfl)
@[simp] theorem pins_nil : pins s [] = ([], s) := (rfl)
@[simp] theorem pins_g (v : GV) (r : List EV) : pins s (.g v :: r) = (.g v :: (pins s r).1, (pins s r).2) := (rfl)
@[simp] theorem pins_new (o : GO) (r : List EV) : pins s (.new o :: r) = (.new o :: (pins s r).1, (pins s r).2) := (rfl)
@[simp] theorem pins_slot (i : Nat) (r : List EV) : pins s (.slot i :: r) = (.g (fz s (.slot i)).1 :: (pins (fz s (.slot i)).2 r).1, (pins (fz s (.slot i)).2 r).2) := (rfl)
@[simp] theorem put1_new (i : Nat) (o : GO) : put1 i (.new o) s = { s with σ := s.σ.set i (.own o) } := (rfl)
@[simp] theorem put1_g (i : Nat) (v : GV) : put1 i (.g v) s = { s with σ := s.σ.set i (.val v) } := (rfl)
@[simp] theorem put1_slot (i j : Nat) : put1 i (.slot j) s = { (fz s (.slot j)).2 with σ := (fz s (.slot j)).2.σ.set i (.val (fz s (.slot j)).1) } := (rfl)
@[simp] theorem puts_cons (i : Nat) (x : EV) (is : List Nat) (xs : List EV) : puts (i :: is) (x :: xs) s = puts is xs (put1 i x s) := (rfl)
@[simp] theorem puts_nil (xs : List EV) : puts [] xs s = s := by cases xs <;> rfl
@[simp] theorem sets_cons (σ : List Sl) (i : Nat) (v : GV) (is : List Nat) (vs : List GV) : sets σ (i :: is) (v :: vs) = sets (σ.set i (.val v)) is vs := (rfl)
@[simp] theorem sets_nil (σ : List Sl) (vs : List GV) : sets σ [] vs = σ := by cases vs <;> rfl
@[simp] theorem fin_f (r : R EV) : GI.fin false r = r := (rfl)
@[simp] theorem fin_t (r : R EV) : GI.fin true r = r.bind fun x s => lift (truth (rd s x)) s fun b => .ok (.g (.bl b)) := (rfl)
@[simp] theorem tst_ok (b : Bool) : tst (.ok (.g (.bl b)) s) = .ok b s := (rfl)
@[simp] theorem tr_bl (b : Bool) : truth (.bl b) = some b := (rfl)
@[simp] theorem tr_non : truth .non = some false := (rfl)
@[simp] theorem tr_int (i : Int) : truth (.int i) = some (i != 0) := (rfl)
@[simp] theorem tr_lst (xs : List GV) : truth (.lst xs) = some (!xs.isEmpty) := (rfl)
@[simp] theorem tr_tup (xs : List GV) : truth (.tup xs) = some (!xs.isEmpty) := (rfl)
@[simp] theorem mk_f (o : GO) : mk false o s = .ok (.new o) s := (rfl)
@[simp] theorem mk_t (o : GO) : mk true o s = .ok (.g (.ref s.h.length)) { s with h := s.h ++ [o] } := (rfl)
@[simp] theorem nox_ok {α : Type} (a : α) : (R.ok a s).nox = .ok a s := (rfl)
/-! ### expressions -/
def varF (i : Nat) (s : GS) : Option Sl → R EV
  | some (.val v) => .ok (.g v) s
  | some (.own _) => .ok (.slot i) s
  | _ => .bad
@[simp] theorem varF_val (i : Nat) (v : GV) : varF i s (some (.val v)) = .ok (.g v) s := (rfl)
@[simp] theorem varF_own (i : Nat) (o : GO) : varF i s (some (.own o)) = .ok (.slot i) s := (rfl)
@[simp] theorem e_var (i : Nat) : evE T F (.var i) m s = GI.fin m (varF i s s.σ[i]?) := by
  show GI.fin m (match s.σ[i]? with
    | some (.val v) => .ok (.g v) s
    | some (.own _) => .ok (.slot i) s
    | _ => .bad) = _
  cases s.σ[i]? with
  | none => rfl
  | some x => cases x <;> rfl
@[simp] theorem e_con (v : GV) : evE T F (.con v) m s = GI.fin m (.ok (.g v) s) := (rfl)
@[simp] theorem e_glb (i : Nat) : evE T F (.glb i) m s = GI.fin m (.ok (.g (T.con i)) s) := (rfl)
@[simp] theorem e_bin (op : Operator) (a b : IE) : evE T F (.bin op a b) m s = GI.fin m ((evE T F a false s).bind fun x s1 => (evE T F b false s1).bind fun y s2 => lift (binop op (rd s2 x) (rd s2 y)) s2 .ok) := (rfl)
@[simp] theorem e_un (op : UnaryOp) (a : IE) : evE T F (.un op a) m s = GI.fin m ((evE T F a false s).bind fun x s1 => lift (unop op (rd s1 x)) s1 fun v => .ok (.g v)) := (rfl)
@[simp] theorem e_not_f (a : IE) : evE T F (.not_ a) false s = (evE T F a false s).bind fun x s1 => lift (truth (rd s1 x)) s1 fun b => .ok (.g (.bl (!b))) := (rfl)
@[simp] theorem e_not_t (a : IE) : evE T F (.not_ a) true s = (tst (evE T F a true s)).bind fun b s1 => .ok (.g (.bl (!b))) s1 := (rfl)
def andF (T : Tab) (F : CF) (b : IE) (s : GS) : GV → R EV
  | .bl true => evE T F b false s
  | .bl false => .ok (.g (.bl false)) s
  | _ => .bad
def orF (T : Tab) (F : CF) (b : IE) (s : GS) : GV → R EV
  | .bl true => .ok (.g (.bl true)) s
  | .bl false => evE T F b false s
  | _ => .bad
@[simp] theorem andF_t (b : IE) : andF T F b s (.bl true) = evE T F b false s := (rfl)
@[simp] theorem andF_f (b : IE) : andF T F b s (.bl false) = .ok (.g (.bl false)) s := (rfl)
@[simp] theorem orF_t (b : IE) : orF T F b s (.bl true) = .ok (.g (.bl true)) s := (rfl)
@[simp] theorem orF_f (b : IE) : orF T F b s (.bl false) = evE T F b false s := (rfl)
@[simp] theorem e_and_t (a b : IE) : evE T F (.and_ a b) true s = (tst (evE T F a true s)).bind fun t s1 => if t then evE T F b true s1 else .ok (.g (.bl false)) s1 := (rfl)
@[simp] theorem e_or_t (a b : IE) : evE T F (.or_ a b) true s = (tst (evE T F a true s)).bind fun t s1 => if t then .ok (.g (.bl true)) s1 else evE T F b true s1 := (rfl)
theorem andF_eq (b : IE) (v : GV) : andF T F b s v = (match v with
    | .bl true => evE T F b false s
    | .bl false => .ok (.g (.bl false)) s
    | _ => .bad) := by
  cases v with
  | bl b => cases b <;> rfl
  | _ => rfl
theorem orF_eq (b : IE) (v : GV) : orF T F b s v = (match v with
    | .bl true => .ok (.g (.bl true)) s
    | .bl false => evE T F b false s
    | _ => .bad) := by
  cases v with
  | bl b => cases b <;> rfl
  | _ => rfl
@[simp] theorem e_and_f (a b : IE) : evE T F (.and_ a b) false s = (evE T F a false s).bind fun x s1 => andF T F b s1 (rd s1 x) := by
  simp only [andF_eq]
  rfl
@[simp] theorem e_or_f (a b : IE) : evE T F (.or_ a b) false s = (evE T F a false s).bind fun x s1 => orF T F b s1 (rd s1 x) := by
  simp only [orF_eq]
  rfl
@[simp] theorem e_ife (c a b : IE) : evE T F (.ife c a b) m s = (tst (evE T F c true s)).bind fun t s1 => if t then evE T F a m s1 else evE T F b m s1 := (rfl)
@[simp] theorem e_cmp (op : CmpOp) (a b : IE) : evE T F (.cmp op a b) m s = (evE T F a false s).bind fun x s1 => (evE T F b false s1).bind fun y s2 => lift (cmpop op (rd s2 x) (rd s2 y)) s2 fun t => .ok (.g (.bl t)) := (rfl)
@[simp] theorem e_chn (op op' : CmpOp) (a b c : IE) : evE T F (.chn op op' a b c) m s = (evE T F a false s).bind fun x s1 => (evE T F b false s1).bind fun y s2 => lift (cmpop op (rd s2 x) (rd s2 y)) s2 fun t s3 =>
      if t then (evE T F c false s3).bind fun z s4 => lift (cmpop op' (rd s4 y) (rd s4 z)) s4 fun t' => .ok (.g (.bl t')) else .ok (.g (.bl false)) s3 := (rfl)
@[simp] theorem e_ix (a b : IE) : evE T F (.ix a b) m s = GI.fin m ((evE T F a false s).bind fun x s1 => (evE T F b false s1).bind fun y s2 => lift (gix (rd s2 x) (rd s2 y)) s2 fun v => .ok (.g v)) := (rfl)
@[simp] theorem e_sl (a : IE) (lo hi : IEo) : evE T F (.sl a lo hi) m s = GI.fin m ((evE T F a false s).bind fun x s1 => (evO T F lo s1).bind fun l s2 => (evO T F hi s2).bind fun u s3 => lift (gsl (rd s3 x) l u) s3 .ok) := (rfl)
def attE (T : Tab) (f : String) (s : GS) : EV → R EV
  | .g v => attF T v f s
  | _ => .bad
@[simp] theorem attE_g (f : String) (v : GV) : attE T f s (.g v) = attF T v f s := (rfl)
@[simp] theorem e_att (a : IE) (f : String) : evE T F (.att a f) m s = GI.fin m ((evE T F a false s).bind fun x s1 => attE T f s1 x) := by
  show GI.fin m ((evE T F a false s).bind fun x s1 => (match x with
    | .g v => attF T v f s1
    | _ => .bad)) = _
  congr 2
@[simp] theorem e_lst (hp : Bool) (es : IEs) : evE T F (.lst hp es) m s = GI.fin m ((evVs T F es s).bind fun xs s1 => if xs.length ≤ sizeLine then mk hp (.lst (fzs s1 xs).1) (fzs s1 xs).2 else .bad) := (rfl)
@[simp] theorem e_tup (es : IEs) : evE T F (.tup es) m s = GI.fin m ((evVs T F es s).bind fun xs s1 => if xs.length ≤ sizeLine then .ok (.g (.tup (fzs s1 xs).1)) (fzs s1 xs).2 else .bad) := (rfl)
@[simp] theorem e_call (f : Nat) (es kes : IEs) (ks : List String) : evE T F (.call f es ks kes) m s = GI.fin m ((evVs T F es s).bind fun xs s1 => (evVs T F kes s1).bind fun ys s2 => callF T F f (fzs s2 xs).1 ks (fzs (fzs s2 xs).2 ys).1 (fzs (fzs s2 xs).2 ys).2) := (rfl)
@[simp] theorem e_make (c : Nat) (es kes : IEs) (ks : List String) : evE T F (.make c es ks kes) m s = GI.fin m ((evVs T F es s).bind fun xs s1 => (evVs T F kes s1).bind fun ys s2 => makeF T F c (fzs s2 xs).1 ks (fzs (fzs s2 xs).2 ys).1 (fzs (fzs s2 xs).2 ys).2) := (rfl)
def methE (T : Tab) (F : CF) (n : String) (es kes : IEs) (ks : List String) (s0 : GS) : EV → R EV
  | .g v => (match methOf T s0.h v n with
      | some f => (evVs T F es s0).bind fun xs s1 => (evVs T F kes s1).bind fun ys s2 => callF T F f (v :: (fzs s2 xs).1) ks (fzs (fzs s2 xs).2 ys).1 (fzs (fzs s2 xs).2 ys).2
      | none => .bad)
  | _ => .bad
def methK (T : Tab) (F : CF) (v : GV) (es kes : IEs) (ks : List String) (s0 : GS) : Option Nat → R EV
  | some f => (evVs T F es s0).bind fun xs s1 => (evVs T F kes s1).bind fun ys s2 => callF T F f (v :: (fzs s2 xs).1) ks (fzs (fzs s2 xs).2 ys).1 (fzs (fzs s2 xs).2 ys).2
  | none => .bad
@[simp] theorem methK_some (v : GV) (es kes : IEs) (ks : List String) (s0 : GS) (f : Nat) : methK T F v es kes ks s0 (some f) = (evVs T F es s0).bind fun xs s1 => (evVs T F kes s1).bind fun ys s2 => callF T F f (v :: (fzs s2 xs).1) ks (fzs (fzs s2 xs).2 ys).1 (fzs (fzs s2 xs).2 ys).2 := (rfl)
@[simp] theorem methE_g (n : String) (es kes : IEs) (ks : List String) (v : GV) : methE T F n es kes ks s (.g v) = methK T F v es kes ks s (methOf T s.h v n) := by
  show (match methOf T s.h v n with
      | some f => (evVs T F es s).bind fun xs s1 => (evVs T F kes s1).bind fun ys s2 => callF T F f (v :: (fzs s2 xs).1) ks (fzs (fzs s2 xs).2 ys).1 (fzs (fzs s2 xs).2 ys).2
      | none => .bad) = _
  cases methOf T s.h v n <;> rfl
@[simp] theorem e_meth (o : IE) (n : String) (es kes : IEs) (ks : List String) : evE T F (.meth o n es ks kes) m s = GI.fin m ((evE T F o false s).bind fun x s0 => methE T F n es kes ks s0 x) := by
  show GI.fin m ((evE T F o false s).bind fun x s0 => (match x with
    | .g v => (match methOf T s0.h v n with
      | some f => (evVs T F es s0).bind fun xs s1 => (evVs T F kes s1).bind fun ys s2 => callF T F f (v :: (fzs s2 xs).1) ks (fzs (fzs s2 xs).2 ys).1 (fzs (fzs s2 xs).2 ys).2
      | none => .bad)
    | _ => .bad)) = _
  congr 2
@[simp] theorem e_bi (n : Bi) (es : IEs) : evE T F (.bi n es) m s = GI.fin m ((evVs T F es s).bind fun xs s1 => lift (biF n (xs.map (rd s1))) s1 .ok) := (rfl)
def bmE (n : Bm) (x : EV) (ys : List EV) (s2 : GS) : Option EV → R EV
  | some r => .ok r s2
  | none => upo x (bmf n (fzs s2 ys).1) (fzs s2 ys).2
@[simp] theorem bmE_some (n : Bm) (x r : EV) (ys : List EV) : bmE n x ys s (some r) = .ok r s := (rfl)
@[simp] theorem bmE_none (n : Bm) (x : EV) (ys : List EV) : bmE n x ys s none = upo x (bmf n (fzs s ys).1) (fzs s ys).2 := (rfl)
@[simp] theorem e_bm (o : IE) (n : Bm) (es : IEs) : evE T F (.bm o n es) m s = GI.fin m ((evE T F o false s).bind fun x s1 => if n.on (rd s1 x) then (evVs T F es s1).bind fun ys s2 => bmE n x ys s2 (bmr n (rd s2 x) (ys.map (rd s2))) else .bad) := by
  have : ∀ x ys s2, bmE n x ys s2 (bmr n (rd s2 x) (ys.map (rd s2))) = (match bmr n (rd s2 x) (ys.map (rd s2)) with
    | some r => .ok r s2
    | none => let (vs, s3) := fzs s2 ys; upo x (bmf n vs) s3) := by
    intro x ys s2
    cases bmr n (rd s2 x) (ys.map (rd s2)) <;> rfl
  simp only [this]
  rfl
@[simp] theorem e_isi (a : IE) (ts : List Ty) : evE T F (.isi a ts) m s = GI.fin m ((evE T F a false s).bind fun x s1 => lift (isiF T s1 (rd s1 x) ts) s1 fun b => .ok (.g (.bl b))) := (rfl)
/-- one turn of a comprehension -/
def lcS (T : Tab) (F : CF) (elt : IE) (tg : IT) (c : IEo) (own : List Nat) (v : GV) (s : GS) : R (Option GV) := ((tgt tg v s).bind fun _ s3 => (evC T F c s3).bind fun t s4 =>
      if t then (evE T F elt false s4).bind fun x s5 => .ok (some (fz s5 x).1) (fz s5 x).2 else .ok none s4).bind fun o s6 => .ok o { s6 with σ := wipeG s6.σ own }
@[simp] theorem e_lc (hp : Bool) (elt : IE) (tg : IT) (it : II) (c : IEo) (own : List Nat) : evE T F (.lc hp elt tg it c own) m s = GI.fin m ((evI T F it s).bind fun p s1 => ((lcL (same p.2.1 p.2.2) (lcS T F elt tg c own) p.1 [] { s1 with σ := wipeG s1.σ own }).nox).bind fun vs s2 => mk hp (.lst vs) { s2 with σ := backG s1.σ s2.σ own }) := (rfl)
@[simp] theorem vs_nil : evVs T F .nil s = .ok [] s := (rfl)
@[simp] theorem vs_cons (e : IE) (r : IEs) : evVs T F (.cons e r) s = (evE T F e false s).bind fun x s1 => (evVs T F r s1).bind fun xs s2 => .ok (x :: xs) s2 := (rfl)
@[simp] theorem o_no : evO T F .no s = .ok none s := (rfl)
def intO (s : GS) : GV → R (Option Int)
  | .int i => .ok (some i) s
  | _ => .bad
@[simp] theorem intO_int (i : Int) : intO s (.int i) = .ok (some i) s := (rfl)
@[simp] theorem o_so (e : IE) : evO T F (.so e) s = (evE T F e false s).bind fun x s1 => intO s1 (rd s1 x) := by
  show ((evE T F e false s).bind fun x s1 => (match rd s1 x with
    | .int i => .ok (some i) s1
    | _ => .bad)) = _
  congr 1
@[simp] theorem c_no : evC T F .no s = .ok true s := (rfl)
@[simp] theorem c_so (e : IE) : evC T F (.so e) s = tst (evE T F e true s) := (rfl)
@[simp] theorem i_seq (e : IE) : evI T F (.seq e) s = (evE T F e false s).bind fun x s1 => lift (items (rd (pin s1 x).2 (pin s1 x).1)) (pin s1 x).2 fun vs => .ok (vs, (pin s1 x).1, rd (pin s1 x).2 (pin s1 x).1) := (rfl)
def rngF (s : GS) : List GV → R (List GV × EV × GV)
  | [.int j] => if -(2 ^ 62) ≤ j ∧ j < 2 ^ 62 then .ok ((List.range j.toNat).map fun k => GV.int (k : Nat), EV.g .non, GV.non) s else .bad
  | [.int i, .int j] => if (-(2 ^ 62) ≤ i ∧ i < 2 ^ 62 ∧ -(2 ^ 62) ≤ j ∧ j < 2 ^ 62) then .ok ((List.range (j - i).toNat).map fun k => GV.int (i + (k : Nat)), EV.g .non, GV.non) s else .bad
  | _ => .bad
theorem rngF_1 (j : Int) : rngF s [.int j] = if -(2 ^ 62) ≤ j ∧ j < 2 ^ 62 then .ok ((List.range j.toNat).map fun k => GV.int (k : Nat), EV.g .non, GV.non) s else .bad := (rfl)
theorem rngF_n (n : Nat) (h : n < 2 ^ 62) : rngF s [.int n] = .ok ((List.range n).map fun k => GV.int (k : Nat), EV.g .non, GV.non) s := by
  rw [rngF_1, if_pos (by omega)]; rfl
@[simp] theorem i_rng (es : IEs) : evI T F (.rng es) s = (evVs T F es s).bind fun xs s1 => rngF s1 (xs.map (rd s1)) := by
  show ((evVs T F es s).bind fun xs s1 => (match xs.map (rd s1) with
    | [.int j] => if -(2 ^ 62) ≤ j ∧ j < 2 ^ 62 then R.ok ((List.range j.toNat).map fun k => GV.int (k : Nat), EV.g .non, GV.non) s1 else .bad
    | [.int i, .int j] => if (-(2 ^ 62) ≤ i ∧ i < 2 ^ 62 ∧ -(2 ^ 62) ≤ j ∧ j < 2 ^ 62) then R.ok ((List.range (j - i).toNat).map fun k => GV.int (i + (k : Nat)), EV.g .non, GV.non) s1 else .bad
    | _ => R.bad)) = _
  congr 1
/-! ### statements -/
def nxF (T : Tab) (F : CF) (r : ISs) (s : GS) : Fl → R Fl
  | .nx => evSs T F r s
  | f => .ok f s
@[simp] theorem nxF_nx (r : ISs) : nxF T F r s .nx = evSs T F r s := (rfl)
@[simp] theorem nxF_rt (r : ISs) (v : GV) : nxF T F r s (.rt v) = .ok (.rt v) s := (rfl)
@[simp] theorem nxF_bk (r : ISs) : nxF T F r s .bk = .ok .bk s := (rfl)
@[simp] theorem nxF_ct (r : ISs) : nxF T F r s .ct = .ok .ct s := (rfl)
@[simp] theorem ss_nil' : evSs T F .nil s = .ok .nx s := (rfl)
@[simp] theorem ss_cons' (st : IS) (r : ISs) : evSs T F (.cons st r) s = (evS T F st s).bind fun f s1 => nxF T F r s1 f := by
  show ((evS T F st s).bind fun f s1 => (match f with
    | .nx => evSs T F r s1
    | f => .ok f s1)) = _
  congr 1
@[simp] theorem s_exp' (e : IE) : evS T F (.exp e) s = (evE T F e false s).bind fun _ s1 => .ok .nx s1 := (rfl)
@[simp] theorem s_ret0 : evS T F (.ret .no) s = .ok (.rt .non) s := (rfl)
@[simp] theorem s_ret1 (e : IE) : evS T F (.ret (.so e)) s = (evE T F e false s).bind fun x s1 => .ok (.rt (fz s1 x).1) (fz s1 x).2 := (rfl)
@[simp] theorem s_asg' (i : Nat) (e : IE) : evS T F (.asg i e) s = (evE T F e false s).bind fun x s1 => .ok .nx (put1 i x s1) := (rfl)
@[simp] theorem s_par' (is : List Nat) (es : IEs) : evS T F (.par is es) s = (evVs T F es s).bind fun xs s1 => .ok .nx (puts is (pins s1 xs).1 (pins s1 xs).2) := (rfl)
@[simp] theorem s_unp' (is : List Nat) (e : IE) : evS T F (.unp is e) s = (evE T F e false s).bind fun x s1 => lift (unpk (rd s1 x) is.length) s1 fun vs s2 => .ok .nx { s2 with σ := sets s2.σ is vs } := (rfl)
@[simp] theorem s_setA' (o : IE) (f : String) (e : IE) : evS T F (.setA o f e) s = (evE T F e false s).bind fun x s1 => (evE T F o false s1).bind fun y s2 => (upo y (putFld T f (fz s2 x).1) (fz s2 x).2).bind fun _ s4 => .ok .nx s4 := (rfl)
@[simp] theorem s_setI' (o i e : IE) : evS T F (.setI o i e) s = (evE T F e false s).bind fun x s1 => (evE T F o false s1).bind fun y s2 => (evE T F i false s2).bind fun z s3 => (upo y (putIx (fz (fz s3 x).2 z).1 (fz s3 x).1) (fz (fz s3 x).2 z).2).bind fun _ s6 => .ok .nx s6 := (rfl)
@[simp] theorem s_ife' (c : IE) (a b : ISs) : evS T F (.ife c a b) s = (tst (evE T F c true s)).bind fun t s1 => if t then evSs T F a s1 else evSs T F b s1 := (rfl)
/-- one turn of a for -/
def forS (T : Tab) (F : CF) (tg : IT) (b : ISs) (v : GV) (s : GS) : R Fl := (tgt tg v s).bind fun _ s3 => evSs T F b s3
theorem forS_eq (tg : IT) (b : ISs) (v : GV) : forS T F tg b v s = (tgt tg v s).bind fun _ s3 => evSs T F b s3 := (rfl)
@[simp] theorem s_for' (tg : IT) (it : II) (b : ISs) : evS T F (.for_ tg it b) s = (evI T F it s).bind fun p s1 => forL (same p.2.1 p.2.2) (forS T F tg b) p.1 s1 := (rfl)
@[simp] theorem s_whl' (c : IE) (b : ISs) : evS T F (.whl c b) s = whlL (evT T F c) (evSs T F b) bigN s := (rfl)
@[simp] theorem s_pass' : evS T F .pass s = .ok .nx s := (rfl)
@[simp] theorem s_brk' : evS T F .brk s = .ok .bk s := (rfl)
@[simp] theorem s_cnt' : evS T F .cnt s = .ok .ct s := (rfl)
@[simp] theorem tgt_nm (i : Nat) (v : GV) : tgt (.nm i) v s = .ok () { s with σ := s.σ.set i (.val v) } := (rfl)
def tpF (is : List Nat) (s : GS) : Option (List GV) → R Unit
  | some vs => .ok () { s with σ := sets s.σ is vs }
  | none => .bad
@[simp] theorem tpF_some (is : List Nat) (vs : List GV) : tpF is s (some vs) = .ok () { s with σ := sets s.σ is vs } := (rfl)
@[simp] theorem tgt_tp (is : List Nat) (v : GV) : tgt (.tp is) v s = tpF is s (unpk (rdv s.h v) is.length) := by
  show (match unpk (rdv s.h v) is.length with
    | some vs => R.ok () { s with σ := sets s.σ is vs }
    | none => .bad) = _
  cases unpk (rdv s.h v) is.length <;> rfl
@[simp] theorem unpk_tup (xs : List GV) (n : Nat) (h : xs.length = n) : unpk (.tup xs) n = some xs := by show (if xs.length = n then some xs else none) = _; rw [if_pos h]
@[simp] theorem unpk_lst (xs : List GV) (n : Nat) (h : xs.length = n) : unpk (.lst xs) n = some xs := by show (if xs.length = n then some xs else none) = _; rw [if_pos h]
/-! ### a call -/
def backF : R Fl → RF
  | .ok (.rt v) s => .ok v s.h
  | .ok .nx s => .ok .non s.h
  | .ok _ _ => .bad
  | .exc c fs s => .exc c fs s.h
  | .bad => .bad
@[simp] theorem backF_rt (v : GV) : backF (.ok (.rt v) s) = .ok v s.h := (rfl)
@[simp] theorem backF_nx : backF (.ok .nx s) = .ok .non s.h := (rfl)
theorem run_at {n f : Nat} {d : GF} {vs : List GV} {h : List GO} (hd : T.fns f = some d) (hl : vs.length = d.arity) : run T (n + 1) f vs h = backF (evSs T (run T n) d.body ⟨vs.map .val ++ List.replicate (d.slots - vs.length) .no, h⟩) := by
  show runF T (run T n) f vs h = _
  unfold runF
  rw [hd]
  simp only [hl, if_true]
  cases evSs T (run T n) d.body ⟨vs.map .val ++ List.replicate (d.slots - d.arity) .no, h⟩ with
  | ok fl s => cases fl <;> rfl
  | exc c fs s => rfl
  | bad => rfl
def retF (s : GS) : RF → R EV
  | .ok v h => .ok (.g v) { s with h := h }
  | .exc c fs h => .exc c fs { s with h := h }
  | .bad => .bad
@[simp] theorem retF_ok (v : GV) (h : List GO) : retF s (.ok v h) = .ok (.g v) { s with h := h } := (rfl)
theorem call_at {f : Nat} {d : GF} {vs zs l : List GV} {ks : List String} {src : List Src} (hd : T.fns f = some d) (hz : zs.length = ks.length) (hs : d.shapes.lookup (vs.length, ks) = some src) (hb : bindG vs zs src = some l) : callF T F f vs ks zs s = retF s (F f l s.h) := by
  unfold callF Tab.args
  rw [hd]
  simp only [hz, if_true, hs, hb]
  cases F f l s.h <;> rfl
end
/-! ### values -/
theorem strOk_of (x : String) : PyData.strOk (Str.ofString x) = true := by
  rw [Str.ofString_eq_toList]
  show (x.toList.map Char.toNat).toArray.all (· < 0x110000) = true
  rw [List.all_toArray, List.all_eq_true]
  intro n hn
  obtain ⟨c, _, rfl⟩ := List.mem_map.mp hn
  refine decide_eq_true ?_
  have := c.valid
  have h2 : c.toNat = c.val.toNat := (rfl)
  rw [h2]
  rcases this with h | ⟨_, h⟩ <;> omega
@[simp] theorem ofs_beq (a b : String) : (Str.ofString a == Str.ofString b) = (a == b) := by
  rw [Bool.eq_iff_iff, beq_iff_eq, beq_iff_eq]
  exact ⟨str_inj, fun h => by rw [h]⟩
@[simp] theorem geq_int (i j : Int) : geq (.int i) (.int j) = some (i == j) := (rfl)
theorem geq_str (a b : Str) (ha : PyData.strOk a = true) (hb : PyData.strOk b = true) : geq (.str a) (.str b) = some (a == b) := by
  show (if (SeqAt.shaped (.str a) && SeqAt.shaped (.str b)) = true then some (PyData.eqv (.str a) (.str b)) else none) = _
  rw [if_pos ?_]
  · simp only [PyData.eqv]
  · have : ∀ x, PyData.strOk x = true → SeqAt.shaped (.str x) = true := fun x h => by
      unfold SeqAt.shaped
      rw [Bool.and_eq_true]
      exact ⟨by simp only [PyData.canLay0]; exact h, rfl⟩
    rw [this a ha, this b hb]; rfl
@[simp] theorem geq_ofs (a b : String) : geq (.str (Str.ofString a)) (.str (Str.ofString b)) = some (a == b) := by
  rw [geq_str _ _ (strOk_of a) (strOk_of b), ofs_beq]
end GI
end
set_option Elab.async false
set_option linter.all false
set_option maxRecDepth 100000
/-! GI.Lib: loops by invariants; texts; heaps. -/
noncomputable section
namespace GI
open PySem PySem.Spec PyProof.Rows L2 Classical
section
variable {T : Tab} {F : CF} {s : GS}
open Classical in
theorem lcL_fm {same : GS → Prop} {step : GV → GS → R (Option GV)} (f : GV → Option GV) : ∀ {xs acc : List GV} {s : GS}, same s → (∀ x ∈ xs, step x s = .ok (f x) s) → acc.length + xs.length ≤ sizeLine → lcL same step xs acc s = .ok (acc ++ xs.filterMap f) s
  | [], acc, s, hs, _, _ => by
    show (if same s then R.ok acc s else .bad) = _
    rw [if_pos hs]; simp
  | x :: r, acc, s, hs, h, hl => by
    show (if same s ∧ acc.length < sizeLine then (step x s).bind fun o s1 => (match o with
      | some v => lcL same step r (acc ++ [v]) s1
      | none => lcL same step r acc s1) else .bad) = _
    rw [List.length_cons] at hl
    rw [if_pos ⟨hs, by omega⟩, h x List.mem_cons_self, bind_ok]
    cases e : f x with
    | none =>
      simp only
      rw [lcL_fm f hs (fun y hy => h y (List.mem_cons_of_mem _ hy)) (by omega), List.filterMap_cons, e]
    | some v =>
      simp only
      rw [lcL_fm f hs (fun y hy => h y (List.mem_cons_of_mem _ hy)) (by rw [List.length_append, List.length_singleton]; omega), List.filterMap_cons, e, List.append_assoc]; rfl
theorem lcL_map {same : GS → Prop} {step : GV → GS → R (Option GV)} (f : GV → GV) {xs : List GV} {s : GS} (hs : same s) (h : ∀ x ∈ xs, step x s = .ok (some (f x)) s) (hl : xs.length ≤ sizeLine) : lcL same step xs [] s = .ok (xs.map f) s := by
  rw [lcL_fm (fun x => some (f x)) hs h (by simpa using hl)]
  simp
/-- over the items of a Lean list -/
theorem lcL_mapL {α : Type} {same : GS → Prop} {step : GV → GS → R (Option GV)} (g : α → GV) (f : α → GV) {xs : List α} {s : GS} (hs : same s) (h : ∀ x ∈ xs, step (g x) s = .ok (some (f x)) s) (hl : xs.length ≤ sizeLine) : lcL same step (xs.map g) [] s = .ok (xs.map f) s := by
  have : ∀ (acc : List GV) (xs : List α), (∀ x ∈ xs, step (g x) s = .ok (some (f x)) s) → acc.length + xs.length ≤ sizeLine → lcL same step (xs.map g) acc s = .ok (acc ++ xs.map f) s := by
    intro acc xs
    induction xs generalizing acc with
    | nil =>
      intro _ _
      show (if same s then R.ok acc s else .bad) = _
      rw [if_pos hs]; simp
    | cons x r ih =>
      intro h hl
      rw [List.length_cons] at hl
      rw [List.map_cons]
      show (if same s ∧ acc.length < sizeLine then (step (g x) s).bind fun o s1 => (match o with
        | some v => lcL same step (r.map g) (acc ++ [v]) s1
        | none => lcL same step (r.map g) acc s1) else .bad) = _
      rw [if_pos ⟨hs, by omega⟩, h x List.mem_cons_self, bind_ok]
      simp only
      rw [ih _ (fun y hy => h y (List.mem_cons_of_mem _ hy)) (by rw [List.length_append, List.length_singleton]; omega), List.map_cons, List.append_assoc]; rfl
  simpa using this [] xs h (by simpa using hl)
theorem lcL_fmL {α : Type} {same : GS → Prop} {step : GV → GS → R (Option GV)} (g : α → GV) (f : α → Option GV) {xs : List α} {s : GS} (hs : same s) (h : ∀ x ∈ xs, step (g x) s = .ok (f x) s) (hl : xs.length ≤ sizeLine) : lcL same step (xs.map g) [] s = .ok (xs.filterMap f) s := by
  have : ∀ (acc : List GV) (xs : List α), (∀ x ∈ xs, step (g x) s = .ok (f x) s) → acc.length + xs.length ≤ sizeLine → lcL same step (xs.map g) acc s = .ok (acc ++ xs.filterMap f) s := by
    intro acc xs
    induction xs generalizing acc with
    | nil =>
      intro _ _
      show (if same s then R.ok acc s else .bad) = _
      rw [if_pos hs]; simp
    | cons x r ih =>
      intro h hl
      rw [List.length_cons] at hl
      rw [List.map_cons]
      show (if same s ∧ acc.length < sizeLine then (step (g x) s).bind fun o s1 => (match o with
        | some v => lcL same step (r.map g) (acc ++ [v]) s1
        | none => lcL same step (r.map g) acc s1) else .bad) = _
      rw [if_pos ⟨hs, by omega⟩, h x List.mem_cons_self, bind_ok]
      cases e : f x with
      | none =>
        simp only
        rw [ih _ (fun y hy => h y (List.mem_cons_of_mem _ hy)) (by omega), List.filterMap_cons, e]
      | some v =>
        simp only
        rw [ih _ (fun y hy => h y (List.mem_cons_of_mem _ hy)) (by rw [List.length_append, List.length_singleton]; omega), List.filterMap_cons, e, List.append_assoc]; rfl
  simpa using this [] xs h (by simpa using hl)
/-- with a word between the turns -/
theorem lcL_inv {same : GS → Prop} {step : GV → GS → R (Option GV)} (I : Nat → GS → Prop) (P : GV → Prop) : ∀ {xs acc : List GV} {s : GS} {i : Nat}, I i s → (∀ i s, I i s → same s) → (∀ j s x, xs[j]? = some x → I (i + j) s → ∃ y s', step x s = .ok (some y) s' ∧ P y ∧ I (i + j + 1) s') → acc.length + xs.length ≤ sizeLine →
    ∃ ys s', lcL same step xs acc s = .ok (acc ++ ys) s' ∧ ys.length = xs.length ∧ (∀ y ∈ ys, P y) ∧ I (i + xs.length) s'
  | [], acc, s, i, hI, hs, _, _ => by
    refine ⟨[], s, ?_, rfl, (fun y hy => by cases hy), hI⟩
    show (if same s then R.ok acc s else .bad) = _
    rw [if_pos (hs i s hI)]; simp
  | x :: r, acc, s, i, hI, hs, h, hl => by
    rw [List.length_cons] at hl
    obtain ⟨y, s1, e1, p1, i1⟩ := h 0 s x rfl hI
    obtain ⟨ys, s2, e2, l2, p2, i2⟩ := lcL_inv I P (xs := r) (s := s1) (i := i + 1) (acc := acc ++ [y]) i1 hs (fun j s z hz hI => by
      have := h (j + 1) s z (by simpa using hz) (by rw [show i + (j + 1) = i + 1 + j by omega]; exact hI)
      rw [show i + 1 + j + 1 = i + (j + 1) + 1 by omega]; exact this) (by rw [List.length_append, List.length_singleton]; omega)
    refine ⟨y :: ys, s2, ?_, by rw [List.length_cons, List.length_cons, l2], ?_, ?_⟩
    · show (if same s ∧ acc.length < sizeLine then (step x s).bind fun o s1 => (match o with
        | some v => lcL same step r (acc ++ [v]) s1
        | none => lcL same step r acc s1) else .bad) = _
      rw [if_pos ⟨hs i s hI, by omega⟩, e1, bind_ok]
      simp only
      rw [e2, List.append_assoc]; rfl
    · intro z hz
      rcases List.mem_cons.mp hz with rfl | hz
      · exact p1
      · exact p2 z hz
    · rw [List.length_cons, show i + (r.length + 1) = i + 1 + r.length by omega]; exact i2
theorem forL_inv {same : GS → Prop} {step : GV → GS → R Fl} (I : Nat → GS → Prop) : ∀ {xs : List GV} {s : GS} {i : Nat}, I i s → (∀ i s, I i s → same s) → (∀ j s x, xs[j]? = some x → I (i + j) s → ∃ s', step x s = .ok .nx s' ∧ I (i + j + 1) s') →
    ∃ s', forL same step xs s = .ok .nx s' ∧ I (i + xs.length) s'
  | [], s, i, hI, hs, _ => by
    refine ⟨s, ?_, hI⟩
    show (if same s then R.ok Fl.nx s else .bad) = _
    rw [if_pos (hs i s hI)]
  | x :: r, s, i, hI, hs, h => by
    obtain ⟨s1, e1, i1⟩ := h 0 s x rfl hI
    obtain ⟨s2, e2, i2⟩ := forL_inv I (xs := r) (s := s1) (i := i + 1) i1 hs (fun j s z hz hI => by
      have := h (j + 1) s z (by simpa using hz) (by rw [show i + (j + 1) = i + 1 + j by omega]; exact hI)
      rw [show i + 1 + j + 1 = i + (j + 1) + 1 by omega]; exact this)
    refine ⟨s2, ?_, by rw [List.length_cons, show i + (r.length + 1) = i + 1 + r.length by omega]; exact i2⟩
    show (if same s then (step x s).bind fun f s1 => (match f with
      | .nx => forL same step r s1
      | .ct => forL same step r s1
      | .bk => R.ok Fl.nx s1
      | .rt v => R.ok (Fl.rt v) s1) else .bad) = _
    rw [if_pos (hs i s hI), e1, bind_ok]
    exact e2
theorem same_lst {L : List GV} : same (.g (.lst L)) (.lst L) s := rfl
theorem same_tup {L : List GV} : same (.g (.tup L)) (.tup L) s := rfl
theorem same_str {L : Str} : same (.g (.str L)) (.str L) s := rfl
theorem same_scr {L : List Int} : same (.g (.scr L)) (.scr L) s := rfl
theorem same_non : same (.g .non) .non s := rfl
def forK (same : GS → Prop) (step : GV → GS → R Fl) (r : List GV) (s1 : GS) : Fl → R Fl
  | .nx => forL same step r s1
  | .ct => forL same step r s1
  | .bk => .ok .nx s1
  | .rt v => .ok (.rt v) s1
@[simp] theorem forK_nx {same : GS → Prop} {step : GV → GS → R Fl} {r : List GV} : forK same step r s .nx = forL same step r s := (rfl)
@[simp] theorem forK_ct {same : GS → Prop} {step : GV → GS → R Fl} {r : List GV} : forK same step r s .ct = forL same step r s := (rfl)
@[simp] theorem forK_bk {same : GS → Prop} {step : GV → GS → R Fl} {r : List GV} : forK same step r s .bk = .ok .nx s := (rfl)
@[simp] theorem forK_rt {same : GS → Prop} {step : GV → GS → R Fl} {r : List GV} {v : GV} : forK same step r s (.rt v) = .ok (.rt v) s := (rfl)
theorem forL_nil {same : GS → Prop} {step : GV → GS → R Fl} (hs : same s) : forL same step [] s = .ok .nx s := by
  show (if same s then R.ok Fl.nx s else .bad) = _
  rw [if_pos hs]
theorem forL_cons {same : GS → Prop} {step : GV → GS → R Fl} {x : GV} {r : List GV} (hs : same s) : forL same step (x :: r) s = (step x s).bind fun f s1 => forK same step r s1 f := by
  show (if same s then (step x s).bind fun f s1 => (match f with
      | .nx => forL same step r s1
      | .ct => forL same step r s1
      | .bk => R.ok Fl.nx s1
      | .rt v => R.ok (Fl.rt v) s1) else .bad) = _
  rw [if_pos hs]
  congr 1
end
/-! ### texts -/
def S (l : List Nat) : Str := ⟨l.toArray⟩
@[simp] theorem S_len (l : List Nat) : (S l).length = l.length := by show l.toArray.size = _; simp
@[simp] theorem S_list (l : List Nat) : (S l).cps.toList = l := (rfl)
theorem S_of (x : Str) : S x.cps.toList = x := by cases x; rfl
theorem S_inj {l m : List Nat} (h : S l = S m) : l = m := by have := congrArg (fun z : Str => z.cps.toList) h; simpa using this
@[simp] theorem S_app (l m : List Nat) : S l ++ S m = S (l ++ m) := by
  show (⟨l.toArray ++ m.toArray⟩ : Str) = _
  unfold S; simp
theorem S_sg (c : Nat) : (⟨#[c]⟩ : Str) = S [c] := rfl
theorem S_ofs (x : String) : Str.ofString x = S (x.toList.map Char.toNat) := by rw [Str.ofString_eq_toList]; rfl
theorem strOk_S {l : List Nat} (h : ∀ c ∈ l, c < 0x110000) : PyData.strOk (S l) = true := by
  show l.toArray.all (· < 0x110000) = true
  rw [List.all_toArray, List.all_eq_true]
  intro c hc
  exact decide_eq_true (h c hc)
@[simp] theorem S_beq (l m : List Nat) : (S l == S m) = (l == m) := by
  rw [Bool.eq_iff_iff, beq_iff_eq, beq_iff_eq]
  exact ⟨S_inj, fun h => by rw [h]⟩
theorem items_S (l : List Nat) : items (.str (S l)) = some (l.map fun c => .str (S [c])) := rfl
/-! ### blocks -/
@[simp] theorem wipeG_nil (σ : List Sl) : wipeG σ [] = σ := (rfl)
@[simp] theorem wipeG_cons (σ : List Sl) (i : Nat) (r : List Nat) : wipeG σ (i :: r) = (wipeG σ r).set i .no := (rfl)
@[simp] theorem backG_nil (σ σ' : List Sl) : backG σ σ' [] = σ' := (rfl)
@[simp] theorem backG_cons (σ σ' : List Sl) (i : Nat) (r : List Nat) : backG σ σ' (i :: r) = (backG σ σ' r).set i (Sl.kept σ[i]?) := (rfl)
@[simp] theorem kept_v (g : GV) : Sl.kept (some (.val g)) = .val g := (rfl)
@[simp] theorem kept_n : Sl.kept (some .no) = .no := (rfl)
@[simp] theorem kept_o (o : GO) : Sl.kept (some (.own o)) = .no := (rfl)
@[simp] theorem kept_z : Sl.kept none = .no := (rfl)
@[simp] theorem un_int (i : Int) : unop .USub (.int i) = some (.int (-i)) := (rfl)
@[simp] theorem bn_add (i j : Int) : binop .Add (.int i) (.int j) = some (.g (.int (i + j))) := (rfl)
@[simp] theorem bn_sub (i j : Int) : binop .Sub (.int i) (.int j) = some (.g (.int (i - j))) := (rfl)
theorem bn_mul {i j : Int} (h : CMul i j) : binop .Mult (.int i) (.int j) = some (.g (.int (i * j))) := by
  show (if CMul i j then _ else _) = _; rw [if_pos h]
theorem bn_mod {i j : Int} (h : 0 < j) : binop .Mod (.int i) (.int j) = some (.g (.int (i % j))) := by
  show (if 0 < j then _ else _) = _; rw [if_pos h]
theorem bn_div {i j : Int} (h : CDiv i j) : binop .FloorDiv (.int i) (.int j) = some (.g (.int (i / j))) := by
  show (if CDiv i j then _ else _) = _; rw [if_pos h]
theorem bn_pow {i j : Int} (h : CPow i j) : binop .Pow (.int i) (.int j) = some (.g (.int (i ^ j.toNat))) := by
  show (if CPow i j then _ else _) = _; rw [if_pos h]
theorem bn_strs {x y : Str} (h : x.length + y.length ≤ sizeLine) : binop .Add (.str x) (.str y) = some (.g (.str (x ++ y))) := by
  show (if lenOk (x.length + y.length) then _ else _) = _; exact if_pos h
theorem bn_lsts {x y : List GV} (h : x.length + y.length ≤ sizeLine) : binop .Add (.lst x) (.lst y) = some (.new (.lst (x ++ y))) := by
  show (if lenOk (x.length + y.length) then _ else _) = _; exact if_pos h
@[simp] theorem cp_lt (i j : Int) : cmpop .Lt (.int i) (.int j) = some (decide (i < j)) := (rfl)
@[simp] theorem cp_le (i j : Int) : cmpop .LtE (.int i) (.int j) = some (decide (i ≤ j)) := (rfl)
@[simp] theorem cp_gt (i j : Int) : cmpop .Gt (.int i) (.int j) = some (decide (j < i)) := (rfl)
@[simp] theorem cp_ge (i j : Int) : cmpop .GtE (.int i) (.int j) = some (decide (j ≤ i)) := (rfl)
@[simp] theorem cp_les (i j : Str) : cmpop .LtE (.str i) (.str j) = some (!decide (j.cps.toList < i.cps.toList)) := (rfl)
@[simp] theorem cp_lts (i j : Str) : cmpop .Lt (.str i) (.str j) = some (decide (i.cps.toList < j.cps.toList)) := (rfl)
@[simp] theorem cp_eqv (x y : GV) : cmpop .Eq x y = eqv2 x y := (rfl)
@[simp] theorem cp_nev (x y : GV) : cmpop .NotEq x y = (eqv2 x y).map not := (rfl)
@[simp] theorem eq_strs (i j : Str) : eqv2 (.str i) (.str j) = some (i == j) := (rfl)
@[simp] theorem eq_ints (i j : Int) : eqv2 (.int i) (.int j) = some (i == j) := (rfl)
theorem eq_deep {x y : GV} (h : lenNe x y = false) (hs : (∀ i j, ¬ (x = .str i ∧ y = .str j))) : eqv2 x y = geq x y := by
  unfold eqv2
  split
  · exact (hs _ _ ⟨rfl, rfl⟩).elim
  · rw [h]; rfl
theorem eq_len {xs ys : List GV} (h : xs.length ≠ ys.length) : eqv2 (.lst xs) (.lst ys) = some false := by
  refine if_pos ?_
  show (xs.length != ys.length) = true
  simpa using h
theorem eq_lsts {xs ys : List GV} (h : xs.length = ys.length) : eqv2 (.lst xs) (.lst ys) = geq (.lst xs) (.lst ys) := eq_deep (by show (xs.length != ys.length) = false; simpa using h) (fun i j z => by cases z.1)
@[simp] theorem cp_isN (x : GV) : cmpop .Is x .non = isN x := by cases x <;> rfl
@[simp] theorem cp_isnN (x : GV) : cmpop .IsNot x .non = (isN x).map not := by cases x <;> rfl
@[simp] theorem isN_non : isN .non = some true := (rfl)
@[simp] theorem isN_int (i : Int) : isN (.int i) = some false := (rfl)
@[simp] theorem isN_lst (i : List GV) : isN (.lst i) = some false := (rfl)
@[simp] theorem isN_str (i : Str) : isN (.str i) = some false := (rfl)
@[simp] theorem bi_lenl (xs : List GV) : biF .len [.lst xs] = some (.g (.int xs.length)) := (rfl)
@[simp] theorem bi_lent (xs : List GV) : biF .len [.tup xs] = some (.g (.int xs.length)) := (rfl)
@[simp] theorem bi_lenc (xs : List Int) : biF .len [.scr xs] = some (.g (.int xs.length)) := (rfl)
theorem bi_lens {x : Str} (h : x.length ≤ sizeLine) : biF .len [.str x] = some (.g (.int x.length)) := by
  show (if lenOk x.length then _ else _) = _; exact if_pos h
@[simp] theorem bi_absi (i : Int) : biF .abs [.int i] = some (.g (.int (if i < 0 then -i else i))) := (rfl)
@[simp] theorem bi_inti (i : Int) : biF .int [.int i] = some (.g (.int i)) := (rfl)
@[simp] theorem bi_intb (b : Bool) : biF .int [.bl b] = some (.g (.int (if b then 1 else 0))) := (rfl)
theorem bi_maxi (i j : Int) : biF .max [.int i, .int j] = some (.g (.int (max i j))) := by
  show some (EV.g (.int (if j > i then j else i))) = _
  congr 3
  by_cases h : j > i
  · rw [if_pos h]; omega
  · rw [if_neg h]; omega
theorem bi_mini (i j : Int) : biF .min [.int i, .int j] = some (.g (.int (min i j))) := by
  show some (EV.g (.int (if j < i then j else i))) = _
  congr 3
  by_cases h : j < i
  · rw [if_pos h]; omega
  · rw [if_neg h]; omega
theorem bi_alls (xs : List GV) : biF .all [.lst xs] = (boolsG xs).map fun bs => .g (.bl (bs.all id)) := rfl
theorem bi_anys (xs : List GV) : biF .any [.lst xs] = (boolsG xs).map fun bs => .g (.bl (bs.any id)) := rfl
theorem bi_sums (xs : List GV) : biF .sum [.lst xs] = (intsG xs).map fun ns => .g (.int ns.sum) := rfl
theorem boolsG_map {α : Type} (f : α → Bool) (xs : List α) : boolsG (xs.map fun x => .bl (f x)) = some (xs.map f) := by
  induction xs with
  | nil => rfl
  | cons x r ih => show (boolsG (r.map fun x => .bl (f x))).map _ = _; rw [ih]; rfl
theorem intsG_map {α : Type} (f : α → Int) (xs : List α) : intsG (xs.map fun x => .int (f x)) = some (xs.map f) := by
  induction xs with
  | nil => rfl
  | cons x r ih => show (intsG (r.map fun x => .int (f x))).map _ = _; rw [ih]; rfl
theorem strs_map {α : Type} (f : α → Str) (xs : List α) : strs' (xs.map fun x => .str (f x)) = some (xs.map f) := by
  induction xs with
  | nil => rfl
  | cons x r ih => show (strs' (r.map fun x => .str (f x))).map _ = _; rw [ih]; rfl
theorem gix_lst {xs : List GV} {i : Int} : gix (.lst xs) (.int i) = atI xs i := rfl
theorem gix_tup {xs : List GV} {i : Int} : gix (.tup xs) (.int i) = atI xs i := rfl
theorem gix_scr {xs : List Int} {i : Int} : gix (.scr xs) (.int i) = (atI xs i).map .int := rfl
theorem atI_nat {α : Type} (xs : List α) (n : Nat) (h : n < xs.length) : atI xs (n : Int) = xs[n]? := by
  have e : ixN xs.length (n : Int) = some n := by
    unfold ixN
    rw [if_pos (by omega), if_pos (by omega)]; simp
  unfold atI; rw [e]; rfl
@[simp] theorem atI_0 {α : Type} (x : α) (xs : List α) : atI (x :: xs) 0 = some x := by
  have := atI_nat (x :: xs) 0 (by simp)
  simpa using this
@[simp] theorem atI_1 {α : Type} (x y : α) (xs : List α) : atI (x :: y :: xs) 1 = some y := by
  have := atI_nat (x :: y :: xs) 1 (by simp)
  simpa using this
@[simp] theorem atI_2 {α : Type} (x y z : α) (xs : List α) : atI (x :: y :: z :: xs) 2 = some z := by
  have := atI_nat (x :: y :: z :: xs) 2 (by simp)
  simpa using this
@[simp] theorem atI_3 {α : Type} (x y z w : α) (xs : List α) : atI (x :: y :: z :: w :: xs) 3 = some w := by
  have := atI_nat (x :: y :: z :: w :: xs) 3 (by simp)
  simpa using this
theorem atI_last {α : Type} (xs : List α) (x : α) : atI (xs ++ [x]) (-1) = some x := by
  have e : ixN (xs ++ [x]).length (-1) = some xs.length := by
    unfold ixN
    rw [if_neg (by omega), List.length_append, List.length_singleton, if_pos (by omega)]
    congr 1
    omega
  unfold atI; rw [e]; simp
theorem cut_upto {α : Type} (xs : List α) (n : Nat) : cutG xs none (some (n : Int)) = xs.take n := by
  unfold cutG
  rw [HT.sIx_none, HT.sIx_nat, List.drop_zero, Nat.sub_zero]
  by_cases h : n ≤ xs.length
  · rw [Nat.min_eq_left h]
  · rw [Nat.min_eq_right (by omega), List.take_of_length_le (Nat.le_refl _), List.take_of_length_le (by omega)]
theorem cut_from {α : Type} (xs : List α) (n : Nat) : cutG xs (some (n : Int)) none = xs.drop n := by
  unfold cutG
  rw [HT.sIx_none, HT.sIx_nat]
  by_cases h : n ≤ xs.length
  · rw [Nat.min_eq_left h, List.take_of_length_le]
    rw [List.length_drop]; exact Nat.le_refl _
  · rw [Nat.min_eq_right (by omega), Nat.sub_self, List.take_zero, List.drop_eq_nil_of_le (by omega)]
@[simp] theorem bm_app (o : GV) : Bm.append.on (.lst []) = true := (rfl)
@[simp] theorem ap_on (xs : List GV) : Bm.append.on (.lst xs) = true := (rfl)
@[simp] theorem pp_on (xs : List GV) : Bm.pop.on (.lst xs) = true := (rfl)
@[simp] theorem jn_on (x : Str) : Bm.join.on (.str x) = true := (rfl)
@[simp] theorem ap_r (x : GV) (ys : List GV) : bmr .append x ys = none := by cases x <;> rfl
@[simp] theorem pp_r (x : GV) (ys : List GV) : bmr .pop x ys = none := by cases x <;> rfl
theorem ap_f {xs : List GV} {v : GV} (h : xs.length < sizeLine) : bmf .append [v] (.lst xs) = some (.non, .lst (xs ++ [v])) := by
  show (if xs.length < sizeLine then _ else _) = _; rw [if_pos h]
theorem joinL_nil : ∀ ls : List (List Nat), TL.joinL [] ls = ls.flatten
  | [] => rfl
  | [p] => by simp [TL.joinL]
  | p :: q :: r => by
    have := joinL_nil (q :: r)
    show p ++ ([] ++ TL.joinL [] (q :: r)) = _
    rw [this]; simp
theorem join_S (ls : List (List Nat)) : Txt.join (Str.ofString "") (ls.map S) = S ls.flatten := by
  rw [TL.join_eq]
  have h := TL.tl_join (Str.ofString "") (ls.map S)
  have e0 : TL.tl (Str.ofString "") = [] := by rw [S_ofs]; rfl
  have e1 : (ls.map S).map TL.tl = ls := by
    rw [List.map_map]
    have : TL.tl ∘ S = id := by funext l; rfl
    rw [this, List.map_id]
  rw [e0, e1, joinL_nil] at h
  rw [← h]
  exact (S_of _).symm
/-- ''.join of signs -/
theorem jn_S {α : Type} (f : α → List Nat) (xs : List α) (h : (xs.map fun x => (f x).length).sum ≤ 16777216) : bmr .join (.str (Str.ofString "")) [.lst (xs.map fun x => .str (S (f x)))] = some (.g (.str (S (xs.flatMap f)))) := by
  show (match strs' (xs.map fun x => .str (S (f x))) with
    | some ss => if (ss.map fun z => Str.length z).sum + ss.length * (Str.ofString "").length ≤ 16777216 then some (EV.g (.str (Txt.join (Str.ofString "") ss))) else none
    | none => none) = _
  rw [strs_map (fun x => S (f x))]
  have e0 : (Str.ofString "").length = 0 := by rw [S_ofs]; simp
  simp only [e0, Nat.mul_zero, Nat.add_zero, List.map_map]
  rw [if_pos (by simpa [Function.comp_def] using h)]
  have : (xs.map fun x => S (f x)) = (xs.map f).map S := by rw [List.map_map]; rfl
  rw [this, join_S, List.flatMap_def]
/-! ### repr -/
theorem shown13 {i : Int} (h : i.natAbs < 10 ^ 12) : (PyData.shown (.int i)).length ≤ 13 := by
  have e : PyData.shown (.int i) = Str.ofString (toString i) := by simp only [PyData.shown]
  rw [e, PySem.ofString_length]
  exact int_text_length_le10 (k := 12) (by decide) h
theorem log13 {i : Int} (h : i.natAbs < 10 ^ 12) : i.natAbs.log2 < 1920 := by
  by_cases h0 : i.natAbs = 0
  · rw [h0]; decide
  · rw [Nat.log2_lt h0]
    refine Nat.lt_of_lt_of_le h ?_
    calc 10 ^ 12 ≤ 2 ^ 40 := by decide
      _ ≤ 2 ^ 1920 := Nat.pow_le_pow_right (by decide) (by decide)
theorem bi_reprs {x : GV} {d : PyData} (e : x.pd = some d) (h1 : d.showable = true) (h2 : d.leavesShort 13 = true) (h3 : d.bulk ≤ 1100000) (h4 : d.depth ≤ 60) : biF .repr [x] = some (.g (.str d.shown)) := by
  show (match x.pd with
    | some d => if d.showable = true ∧ d.shown.length ≤ sizeLine ∧ d.depth ≤ 60 then some (EV.g (.str d.shown)) else none
    | none => none) = _
  rw [e]
  refine if_pos ⟨h1, ?_, h4⟩
  have := PyData.shown_le_bulk 13 (by decide) d h2
  rw [sizeLine_eq]
  omega
theorem shown_ok (d : PyData) : (∀ c ∈ d.shown.cps.toList, c < 0x110000) → PyData.strOk d.shown = true := fun h => by
  rw [← S_of d.shown]
  exact strOk_S h
/-! ### heaps -/
/-- but these, all places are as they were -/
structure Chg (as : List Nat) (h h' : List GO) : Prop where
  len : h.length ≤ h'.length
  keep : ∀ (i : Nat) (o : GO), i ∉ as → h[i]? = some o → h'[i]? = some o
theorem Chg.refl {as : List Nat} {h : List GO} : Chg as h h := ⟨Nat.le_refl _, fun _ _ _ e => e⟩
theorem Chg.trans {as : List Nat} {h h' h'' : List GO} (a : Chg as h h') (b : Chg as h' h'') : Chg as h h'' := ⟨Nat.le_trans a.len b.len, fun i o n e => b.keep i o n (a.keep i o n e)⟩
theorem Chg.mono {as bs : List Nat} {h h' : List GO} (a : Chg as h h') (s : ∀ i ∈ as, i ∈ bs) : Chg bs h h' := ⟨a.len, fun i o n e => a.keep i o (fun z => n (s i z)) e⟩
theorem Chg.set {h : List GO} {a : Nat} {o : GO} : Chg [a] h (h.set a o) := ⟨by simp, fun i o n e => by rw [List.getElem?_set_ne (fun z => n (by simp [z]))]; exact e⟩
theorem Chg.push {as : List Nat} {h : List GO} {o : GO} : Chg as h (h ++ [o]) := ⟨by simp, fun i o n e => by rw [List.getElem?_append_left (List.getElem?_eq_some_iff.mp e).1]; exact e⟩
theorem set_at {h : List GO} {a : Nat} {o o' : GO} (e : h[a]? = some o) : (h.set a o')[a]? = some o' := List.getElem?_set_self (List.getElem?_eq_some_iff.mp e).1
end GI
end
set_option Elab.async false
set_option linter.all false
set_option maxRecDepth 100000
set_option maxHeartbeats 4000000
namespace K06
open PySem PySem.Spec PyProof.Rows L2 GI
abbrev P : Program := PySem.Challenge.pw_allalong_k06_whole_settled_and_swapped
def top (i : Nat) : Stmt := P.main.body.getD i (.Pass ⟨0, 0, 0, 0⟩)
/-- is_integer -/
def b0 : ISs := (.cons (.ret (.so (.and_ (.isi (.var 0) [.bt "int"]) (.not_ (.isi (.var 0) [.bt "bool"]))))) .nil)
def g0 : GF := ⟨1, 1, b0, [((1, []), [.pos 0])]⟩
def d0 : He.DefD := ⟨("is_integer", none), "is_integer", "is_integer", defArgs (top 5), defBody (top 5), defScope (top 5), [], []⟩
def t0 : Dt := ⟨d0, g0, ["value"], ["value"]⟩
/-- is_count -/
def b1 : ISs := (.cons (.ret (.so (.and_ (.call 0 (.cons (.var 0) .nil) [] .nil) (.cmp .GtE (.var 0) (.con (.int 0)))))) .nil)
def g1 : GF := ⟨1, 1, b1, [((1, []), [.pos 0])]⟩
def d1 : He.DefD := ⟨("is_count", none), "is_count", "is_count", defArgs (top 6), defBody (top 6), defScope (top 6), [], []⟩
def t1 : Dt := ⟨d1, g1, ["value"], ["value"]⟩
/-- is_signs -/
def b2 : ISs := (.cons (.ife (.or_ (.not_ (.isi (.var 0) [.bt "str"])) (.and_ (.cmp .IsNot (.var 1) (.con .non)) (.cmp .Gt (.bi .len (.cons (.var 0) .nil)) (.var 1)))) (.cons (.ret (.so (.con (.bl false)))) .nil) (.nil)) (.cons (.ret (.so (.bi .all (.cons (.lc false (.chn .LtE .LtE (.con (.str (Str.ofString " "))) (.var 2) (.con (.str (Str.ofString "~")))) (.nm 2) (.seq (.var 0)) .no [2]) .nil)))) .nil))
def g2 : GF := ⟨2, 3, b2, [((1, []), [.pos 0, .dfl .non])]⟩
def d2 : He.DefD := ⟨("is_signs", none), "is_signs", "is_signs", defArgs (top 7), defBody (top 7), defScope (top 7), [.non], []⟩
def t2 : Dt := ⟨d2, g2, ["value", "most", "sign"], ["value", "most"]⟩
/-- is_between -/
def b3 : ISs := (.cons (.ret (.so (.and_ (.call 0 (.cons (.var 0) .nil) [] .nil) (.chn .LtE .LtE (.var 1) (.var 0) (.var 2))))) .nil)
def g3 : GF := ⟨3, 3, b3, [((3, []), [.pos 0, .pos 1, .pos 2])]⟩
def d3 : He.DefD := ⟨("is_between", none), "is_between", "is_between", defArgs (top 9), defBody (top 9), defScope (top 9), [], []⟩
def t3 : Dt := ⟨d3, g3, ["value", "least", "most"], ["value", "least", "most"]⟩
/-- Disk.__init__ -/
def b4 : ISs := (.cons (.setA (.var 0) "text" (.con (.str (Str.ofString "")))) (.cons (.setA (.var 0) "synced" (.con (.int 0))) (.cons (.setA (.var 0) "settled" (.con (.int 0))) .nil)))
def g4 : GF := ⟨1, 1, b4, [((1, []), [.pos 0])]⟩
def d4 : He.DefD := ⟨("Disk", some "__init__"), "__init__", "Disk.__init__", defArgs (inClass (top 10) 0), defBody (inClass (top 10) 0), defScope (inClass (top 10) 0), [], []⟩
def t4 : Dt := ⟨d4, g4, ["self"], ["self"]⟩
/-- Disk.put -/
def b5 : ISs := (.cons (.ife (.not_ (.call 2 (.cons (.var 1) .nil) [] .nil)) (.cons .nev .nil) (.nil)) (.cons (.setA (.var 0) "text" (.bin .Add (.att (.var 0) "text") (.var 1))) .nil))
def g5 : GF := ⟨2, 2, b5, [((2, []), [.pos 0, .pos 1]), ((1, ["signs"]), [.pos 0, .kw 0])]⟩
def d5 : He.DefD := ⟨("Disk", some "put"), "put", "Disk.put", defArgs (inClass (top 10) 1), defBody (inClass (top 10) 1), defScope (inClass (top 10) 1), [], []⟩
def t5 : Dt := ⟨d5, g5, ["self", "signs"], ["self", "signs"]⟩
/-- Disk.sync -/
def b6 : ISs := (.cons (.setA (.var 0) "synced" (.bi .len (.cons (.att (.var 0) "text") .nil))) .nil)
def g6 : GF := ⟨1, 1, b6, [((1, []), [.pos 0])]⟩
def d6 : He.DefD := ⟨("Disk", some "sync"), "sync", "Disk.sync", defArgs (inClass (top 10) 2), defBody (inClass (top 10) 2), defScope (inClass (top 10) 2), [], []⟩
def t6 : Dt := ⟨d6, g6, ["self"], ["self"]⟩
/-- Disk.trim -/
def b7 : ISs := (.cons (.ife (.not_ (.call 3 (.cons (.var 1) (.cons (.att (.var 0) "settled") (.cons (.bi .len (.cons (.att (.var 0) "text") .nil)) .nil))) [] .nil)) (.cons .nev .nil) (.nil)) (.cons (.setA (.var 0) "text" (.sl (.att (.var 0) "text") .no (.so (.var 1)))) (.cons (.setA (.var 0) "synced" (.var 1)) .nil)))
def g7 : GF := ⟨2, 2, b7, [((2, []), [.pos 0, .pos 1]), ((1, ["many"]), [.pos 0, .kw 0])]⟩
def d7 : He.DefD := ⟨("Disk", some "trim"), "trim", "Disk.trim", defArgs (inClass (top 10) 3), defBody (inClass (top 10) 3), defScope (inClass (top 10) 3), [], []⟩
def t7 : Dt := ⟨d7, g7, ["self", "many"], ["self", "many"]⟩
/-- Disk.fall -/
def b8 : ISs := (.cons (.ife (.not_ (.call 1 (.cons (.var 1) .nil) [] .nil)) (.cons .nev .nil) (.nil)) (.cons (.exp (.meth (.var 0) "trim" (.cons (.bin .Add (.att (.var 0) "synced") (.bin .Mod (.var 1) (.bin .Add (.bin .Sub (.bi .len (.cons (.att (.var 0) "text") .nil)) (.att (.var 0) "synced")) (.con (.int 1))))) .nil) [] .nil)) .nil))
def g8 : GF := ⟨2, 2, b8, [((2, []), [.pos 0, .pos 1]), ((1, ["keep"]), [.pos 0, .kw 0])]⟩
def d8 : He.DefD := ⟨("Disk", some "fall"), "fall", "Disk.fall", defArgs (inClass (top 10) 4), defBody (inClass (top 10) 4), defScope (inClass (top 10) 4), [], []⟩
def t8 : Dt := ⟨d8, g8, ["self", "keep"], ["self", "keep"]⟩
/-- Disk.lose -/
def b9 : ISs := (.cons (.ife (.not_ (.call 1 (.cons (.var 1) .nil) [] .nil)) (.cons .nev .nil) (.nil)) (.cons (.exp (.meth (.var 0) "trim" (.cons (.bi .max (.cons (.att (.var 0) "settled") (.cons (.bi .min (.cons (.var 1) (.cons (.bi .len (.cons (.att (.var 0) "text") .nil)) .nil))) .nil))) .nil) [] .nil)) .nil))
def g9 : GF := ⟨2, 2, b9, [((2, []), [.pos 0, .pos 1]), ((1, ["many"]), [.pos 0, .kw 0])]⟩
def d9 : He.DefD := ⟨("Disk", some "lose"), "lose", "Disk.lose", defArgs (inClass (top 10) 5), defBody (inClass (top 10) 5), defScope (inClass (top 10) 5), [], []⟩
def t9 : Dt := ⟨d9, g9, ["self", "many"], ["self", "many"]⟩
/-- Disk.settle -/
def b10 : ISs := (.cons (.ife (.not_ (.call 3 (.cons (.var 1) (.cons (.att (.var 0) "settled") (.cons (.att (.var 0) "synced") .nil))) [] .nil)) (.cons .nev .nil) (.nil)) (.cons (.setA (.var 0) "settled" (.var 1)) .nil))
def g10 : GF := ⟨2, 2, b10, [((2, []), [.pos 0, .pos 1]), ((1, ["many"]), [.pos 0, .kw 0])]⟩
def d10 : He.DefD := ⟨("Disk", some "settle"), "settle", "Disk.settle", defArgs (inClass (top 10) 6), defBody (inClass (top 10) 6), defScope (inClass (top 10) 6), [], []⟩
def t10 : Dt := ⟨d10, g10, ["self", "many"], ["self", "many"]⟩
/-- Disk.swap -/
def b11 : ISs := (.cons (.ife (.not_ (.call 2 (.cons (.var 1) .nil) [] .nil)) (.cons .nev .nil) (.nil)) (.cons (.ife (.not_ (.call 3 (.cons (.var 2) (.cons (.con (.int 0)) (.cons (.bi .len (.cons (.var 1) .nil)) .nil))) [] .nil)) (.cons .nev .nil) (.nil)) (.cons (.setA (.var 0) "text" (.var 1)) (.cons (.setA (.var 0) "synced" (.bi .len (.cons (.var 1) .nil))) (.cons (.setA (.var 0) "settled" (.var 2)) .nil)))))
def g11 : GF := ⟨3, 3, b11, [((3, []), [.pos 0, .pos 1, .pos 2]), ((1, ["settled", "signs"]), [.pos 0, .kw 1, .kw 0])]⟩
def d11 : He.DefD := ⟨("Disk", some "swap"), "swap", "Disk.swap", defArgs (inClass (top 10) 7), defBody (inClass (top 10) 7), defScope (inClass (top 10) 7), [], []⟩
def t11 : Dt := ⟨d11, g11, ["self", "signs", "settled"], ["self", "signs", "settled"]⟩
/-- _law_cell -/
def b12 : ISs := (.cons (.ret (.so (.ife (.cmp .Lt (.var 1) (.bi .len (.cons (.var 0) .nil))) (.ix (.var 0) (.var 1)) (.bin .Add (.bin .Mult (.con (.int 6047)) (.var 1)) (.bin .Mod (.bi .sum (.cons (.sl (.var 0) .no (.so (.con (.int 1)))) .nil)) (.con (.int 1000033))))))) .nil)
def g12 : GF := ⟨2, 2, b12, [((2, []), [.pos 0, .pos 1])]⟩
def d12 : He.DefD := ⟨("_law_cell", none), "_law_cell", "_law_cell", defArgs (top 12), defBody (top 12), defScope (top 12), [], []⟩
def t12 : Dt := ⟨d12, g12, ["script", "k"], ["script", "k"]⟩
/-- _law_box -/
def b13 : ISs := (.cons (.ret (.so (.lst true (.cons (.bi .abs (.cons (.var 0) .nil)) (.cons (.cmp .GtE (.bi .abs (.cons (.var 0) .nil)) (.bin .Pow (.con (.int 10)) (.con (.int 18)))) (.cons (.bin .Mod (.bi .int (.cons (.bi .abs (.cons (.var 0) .nil)) .nil)) (.con (.int 2147483629))) (.cons (.con (.int 0)) .nil))))))) .nil)
def g13 : GF := ⟨1, 1, b13, [((1, []), [.pos 0])]⟩
def d13 : He.DefD := ⟨("_law_box", none), "_law_box", "_law_box", defArgs (top 13), defBody (top 13), defScope (top 13), [], []⟩
def t13 : Dt := ⟨d13, g13, ["great"], ["great"]⟩
/-- _law_take -/
def b14 : ISs := (.cons (.ife (.and_ (.ix (.var 0) (.con (.int 1))) (.cmp .Gt (.ix (.var 0) (.con (.int 0))) (.con (.int 0)))) (.cons (.asg 2 (.bin .Mod (.bi .int (.cons (.ix (.var 0) (.con (.int 0))) .nil)) (.var 1))) (.cons (.setI (.var 0) (.con (.int 0)) (.bin .FloorDiv (.bi .int (.cons (.ix (.var 0) (.con (.int 0))) .nil)) (.var 1))) (.cons (.ret (.so (.var 2))) .nil))) (.nil)) (.cons (.setI (.var 0) (.con (.int 3)) (.bin .Add (.ix (.var 0) (.con (.int 3))) (.con (.int 1)))) (.cons (.asg 3 (.bin .Mod (.bi .int (.cons (.bin .Pow (.bin .Add (.bin .Add (.ix (.var 0) (.con (.int 2))) (.bin .Mult (.con (.int 15485959)) (.ix (.var 0) (.con (.int 3))))) (.con (.int 179424787))) (.con (.int 5))) .nil)) (.con (.int 2147483647)))) (.cons (.ret (.so (.bin .Mod (.bin .FloorDiv (.bin .Mod (.bi .int (.cons (.bin .Pow (.bin .Add (.bin .Mult (.var 3) (.con (.int 48271))) (.bin .Mult (.con (.int 104779)) (.ix (.var 0) (.con (.int 3))))) (.con (.int 3))) .nil)) (.con (.int 2147483587))) (.con (.int 64))) (.var 1)))) .nil))))
def g14 : GF := ⟨2, 4, b14, [((2, []), [.pos 0, .pos 1])]⟩
def d14 : He.DefD := ⟨("_law_take", none), "_law_take", "_law_take", defArgs (top 14), defBody (top 14), defScope (top 14), [], []⟩
def t14 : Dt := ⟨d14, g14, ["box", "many", "digit", "mixed"], ["box", "many"]⟩
/-- _law_some -/
def b15 : ISs := (.cons (.ret (.so (.bm (.con (.str (Str.ofString ""))) .join (.cons (.lc false (.ix (.con (.str (Str.ofString "abcdefghijklmnopqrstuvwxyz 0.~"))) (.call 14 (.cons (.var 0) (.cons (.con (.int 30)) .nil)) [] .nil)) (.nm 2) (.rng (.cons (.var 1) .nil)) .no [2]) .nil)))) .nil)
def g15 : GF := ⟨2, 3, b15, [((2, []), [.pos 0, .pos 1])]⟩
def d15 : He.DefD := ⟨("_law_some", none), "_law_some", "_law_some", defArgs (top 15), defBody (top 15), defScope (top 15), [], []⟩
def t15 : Dt := ⟨d15, g15, ["box", "many", "turn"], ["box", "many"]⟩
/-- _law_with -/
def b16 : ISs := (.cons (.ret (.so (.lc false (.tup (.cons (.var 2) (.cons (.bi .max (.cons (.var 1) (.cons (.var 3) .nil))) .nil))) (.tp [2, 3]) (.seq (.var 0)) .no [2, 3]))) .nil)
def g16 : GF := ⟨2, 4, b16, [((2, []), [.pos 0, .pos 1])]⟩
def d16 : He.DefD := ⟨("_law_with", none), "_law_with", "_law_with", defArgs (top 16), defBody (top 16), defScope (top 16), [], []⟩
def t16 : Dt := ⟨d16, g16, ["row", "mark", "sign", "old"], ["row", "mark"]⟩
/-- _law_behind -/
def b17 : ISs := (.cons (.unp [2, 3] (.tup (.cons (.ix (.var 1) (.con (.int 0))) (.cons (.ix (.bin .Add (.var 1) (.lst false (.cons (.con (.int 0)) .nil))) (.con (.int 1))) .nil)))) (.cons (.ife (.cmp .Eq (.var 2) (.con (.str (Str.ofString "put")))) (.cons (.ret (.so (.bin .Add (.var 0) (.lc false (.tup (.cons (.var 6) (.cons (.con (.int 0)) .nil))) (.nm 6) (.seq (.var 3)) .no [6])))) .nil) (.nil)) (.cons (.ife (.cmp .Eq (.var 2) (.con (.str (Str.ofString "sync")))) (.cons (.ret (.so (.call 16 (.cons (.var 0) (.cons (.con (.int 1)) .nil)) [] .nil))) .nil) (.nil)) (.cons (.ife (.cmp .Eq (.var 2) (.con (.str (Str.ofString "swap")))) (.cons (.ret (.so (.lc false (.tup (.cons (.ix (.var 3) (.var 7)) (.cons (.ife (.cmp .Lt (.var 7) (.ix (.var 1) (.con (.int 2)))) (.con (.int 2)) (.con (.int 1))) .nil))) (.nm 7) (.rng (.cons (.bi .len (.cons (.var 3) .nil)) .nil)) .no [7]))) .nil) (.nil)) (.cons (.ife (.cmp .Eq (.var 2) (.con (.str (Str.ofString "settle")))) (.cons (.ret (.so (.lc false (.tup (.cons (.ix (.ix (.var 0) (.var 7)) (.con (.int 0))) (.cons (.ife (.cmp .Lt (.var 7) (.var 3)) (.con (.int 2)) (.ix (.ix (.var 0) (.var 7)) (.con (.int 1)))) .nil))) (.nm 7) (.rng (.cons (.bi .len (.cons (.var 0) .nil)) .nil)) .no [7]))) .nil) (.nil)) (.cons (.ife (.cmp .Eq (.var 2) (.con (.str (Str.ofString "trim")))) (.cons (.ret (.so (.call 16 (.cons (.sl (.var 0) .no (.so (.var 3))) (.cons (.con (.int 1)) .nil)) [] .nil))) .nil) (.nil)) (.cons (.ife (.cmp .Eq (.var 2) (.con (.str (Str.ofString "lose")))) (.cons (.ret (.so (.call 16 (.cons (.lc false (.ix (.var 0) (.var 7)) (.nm 7) (.rng (.cons (.bi .len (.cons (.var 0) .nil)) .nil)) (.so (.or_ (.cmp .Lt (.var 7) (.var 3)) (.cmp .Eq (.ix (.ix (.var 0) (.var 7)) (.con (.int 1))) (.con (.int 2))))) [7]) (.cons (.con (.int 1)) .nil)) [] .nil))) .nil) (.nil)) (.cons (.asg 4 (.lc false (.var 8) (.nm 8) (.seq (.var 0)) (.so (.cmp .Gt (.ix (.var 8) (.con (.int 1))) (.con (.int 0)))) [8])) (.cons (.asg 5 (.lc false (.var 8) (.nm 8) (.seq (.var 0)) (.so (.cmp .Eq (.ix (.var 8) (.con (.int 1))) (.con (.int 0)))) [8])) (.cons (.ret (.so (.call 16 (.cons (.bin .Add (.var 4) (.sl (.var 5) .no (.so (.bin .Mod (.bi .int (.cons (.var 3) .nil)) (.bin .Add (.bi .len (.cons (.var 5) .nil)) (.con (.int 1))))))) (.cons (.con (.int 1)) .nil)) [] .nil))) .nil))))))))))
def g17 : GF := ⟨2, 9, b17, [((2, []), [.pos 0, .pos 1])]⟩
def d17 : He.DefD := ⟨("_law_behind", none), "_law_behind", "_law_behind", defArgs (top 17), defBody (top 17), defScope (top 17), [], []⟩
def t17 : Dt := ⟨d17, g17, ["row", "deed", "name", "many", "kept", "new", "sign", "k", "item"], ["row", "deed"]⟩
/-- _law_deed -/
def b18 : ISs := (.cons (.par [2, 3] (.cons (.call 14 (.cons (.var 0) (.cons (.con (.int 12)) .nil)) [] .nil) (.cons (.bi .len (.cons (.var 1) .nil)) .nil))) (.cons (.par [4, 5] (.cons (.bi .len (.cons (.lc false (.con (.int 1)) (.nm 7) (.seq (.var 1)) (.so (.cmp .Gt (.ix (.var 7) (.con (.int 1))) (.con (.int 0)))) [7]) .nil)) (.cons (.bi .len (.cons (.lc false (.con (.int 1)) (.nm 7) (.seq (.var 1)) (.so (.cmp .Eq (.ix (.var 7) (.con (.int 1))) (.con (.int 2)))) [7]) .nil)) .nil))) (.cons (.ife (.and_ (.cmp .Lt (.var 2) (.con (.int 4))) (.cmp .Lt (.var 3) (.con (.int 24)))) (.cons (.ret (.so (.lst false (.cons (.con (.str (Str.ofString "put"))) (.cons (.call 15 (.cons (.var 0) (.cons (.call 14 (.cons (.var 0) (.cons (.con (.int 6)) .nil)) [] .nil) .nil)) [] .nil) .nil))))) .nil) (.nil)) (.cons (.ife (.cmp .In (.var 2) (.lst false (.cons (.con (.int 4)) (.cons (.con (.int 5)) .nil)))) (.cons (.ret (.so (.lst false (.cons (.con (.str (Str.ofString "sync"))) .nil)))) .nil) (.nil)) (.cons (.ife (.cmp .In (.var 2) (.lst false (.cons (.con (.int 6)) (.cons (.con (.int 7)) .nil)))) (.cons (.ret (.so (.lst false (.cons (.con (.str (Str.ofString "settle"))) (.cons (.bin .Add (.var 5) (.call 14 (.cons (.var 0) (.cons (.bin .Add (.bin .Sub (.var 4) (.var 5)) (.con (.int 1))) .nil)) [] .nil)) .nil))))) .nil) (.nil)) (.cons (.ife (.cmp .In (.var 2) (.lst false (.cons (.con (.int 0)) (.cons (.con (.int 1)) (.cons (.con (.int 2)) (.cons (.con (.int 3)) (.cons (.con (.int 8)) (.cons (.con (.int 9)) .nil)))))))) (.cons (.asg 6 (.call 15 (.cons (.var 0) (.cons (.call 14 (.cons (.var 0) (.cons (.con (.int 10)) .nil)) [] .nil) .nil)) [] .nil)) (.cons (.ret (.so (.lst false (.cons (.con (.str (Str.ofString "swap"))) (.cons (.var 6) (.cons (.call 14 (.cons (.var 0) (.cons (.bin .Add (.bi .len (.cons (.var 6) .nil)) (.con (.int 1))) .nil)) [] .nil) .nil)))))) .nil)) (.nil)) (.cons (.ife (.cmp .Eq (.var 2) (.con (.int 10))) (.cons (.ret (.so (.lst false (.cons (.con (.str (Str.ofString "trim"))) (.cons (.bin .Add (.var 5) (.call 14 (.cons (.var 0) (.cons (.bin .Add (.bin .Sub (.var 3) (.var 5)) (.con (.int 1))) .nil)) [] .nil)) .nil))))) .nil) (.nil)) (.cons (.ret (.so (.lst false (.cons (.ix (.lst false (.cons (.con (.str (Str.ofString "lose"))) (.cons (.con (.str (Str.ofString "fall"))) .nil))) (.call 14 (.cons (.var 0) (.cons (.con (.int 2)) .nil)) [] .nil)) (.cons (.call 14 (.cons (.var 0) (.cons (.bin .Add (.var 3) (.con (.int 3))) .nil)) [] .nil) .nil))))) .nil))))))))
def g18 : GF := ⟨2, 8, b18, [((2, []), [.pos 0, .pos 1])]⟩
def d18 : He.DefD := ⟨("_law_deed", none), "_law_deed", "_law_deed", defArgs (top 18), defBody (top 18), defScope (top 18), [], []⟩
def t18 : Dt := ⟨d18, g18, ["box", "row", "kind", "many", "synced", "settled", "signs", "item"], ["box", "row"]⟩
/-- _law_do -/
def b19 : ISs := (.cons (.par [3, 4] (.cons (.ix (.var 1) (.con (.int 0))) (.cons (.ix (.bin .Add (.var 1) (.lst false (.cons (.con (.int 0)) .nil))) (.con (.int 1))) .nil))) (.cons (.ife (.cmp .Eq (.var 3) (.con (.str (Str.ofString "put")))) (.cons (.ret (.so (.cmp .Is (.ife (.cmp .Eq (.var 2) (.con (.int 0))) (.meth (.var 0) "put" (.cons (.var 4) .nil) [] .nil) (.meth (.var 0) "put" .nil ["signs"] (.cons (.var 4) .nil))) (.con .non)))) .nil) (.nil)) (.cons (.ife (.cmp .Eq (.var 3) (.con (.str (Str.ofString "sync")))) (.cons (.ret (.so (.cmp .Is (.meth (.var 0) "sync" .nil [] .nil) (.con .non)))) .nil) (.nil)) (.cons (.ife (.cmp .Eq (.var 3) (.con (.str (Str.ofString "swap")))) (.cons (.ret (.so (.cmp .Is (.ife (.cmp .Eq (.var 2) (.con (.int 0))) (.meth (.var 0) "swap" (.cons (.var 4) (.cons (.ix (.var 1) (.con (.int 2))) .nil)) [] .nil) (.meth (.var 0) "swap" .nil ["settled", "signs"] (.cons (.ix (.var 1) (.con (.int 2))) (.cons (.var 4) .nil)))) (.con .non)))) .nil) (.nil)) (.cons (.ife (.cmp .Eq (.var 3) (.con (.str (Str.ofString "settle")))) (.cons (.ret (.so (.cmp .Is (.ife (.cmp .Eq (.var 2) (.con (.int 0))) (.meth (.var 0) "settle" (.cons (.var 4) .nil) [] .nil) (.meth (.var 0) "settle" .nil ["many"] (.cons (.var 4) .nil))) (.con .non)))) .nil) (.nil)) (.cons (.ife (.cmp .Eq (.var 3) (.con (.str (Str.ofString "trim")))) (.cons (.ret (.so (.cmp .Is (.ife (.cmp .Eq (.var 2) (.con (.int 0))) (.meth (.var 0) "trim" (.cons (.var 4) .nil) [] .nil) (.meth (.var 0) "trim" .nil ["many"] (.cons (.var 4) .nil))) (.con .non)))) .nil) (.nil)) (.cons (.ife (.cmp .Eq (.var 3) (.con (.str (Str.ofString "lose")))) (.cons (.ret (.so (.cmp .Is (.ife (.cmp .Eq (.var 2) (.con (.int 0))) (.meth (.var 0) "lose" (.cons (.var 4) .nil) [] .nil) (.meth (.var 0) "lose" .nil ["many"] (.cons (.var 4) .nil))) (.con .non)))) .nil) (.nil)) (.cons (.ret (.so (.cmp .Is (.ife (.cmp .Eq (.var 2) (.con (.int 0))) (.meth (.var 0) "fall" (.cons (.var 4) .nil) [] .nil) (.meth (.var 0) "fall" .nil ["keep"] (.cons (.var 4) .nil))) (.con .non)))) .nil))))))))
def g19 : GF := ⟨3, 5, b19, [((3, []), [.pos 0, .pos 1, .pos 2])]⟩
def d19 : He.DefD := ⟨("_law_do", none), "_law_do", "_law_do", defArgs (top 19), defBody (top 19), defScope (top 19), [], []⟩
def t19 : Dt := ⟨d19, g19, ["disk", "deed", "turn", "name", "many"], ["disk", "deed", "turn"]⟩
/-- _law_is -/
def b20 : ISs := (.cons (.asg 2 (.lst false (.cons (.att (.var 0) "text") (.cons (.att (.var 0) "synced") (.cons (.att (.var 0) "settled") .nil))))) (.cons (.asg 3 (.lst false (.cons (.bm (.con (.str (Str.ofString ""))) .join (.cons (.lc false (.var 4) (.tp [4, 5]) (.seq (.var 1)) .no [4, 5]) .nil)) (.cons (.bi .len (.cons (.lc false (.con (.int 1)) (.nm 6) (.seq (.var 1)) (.so (.cmp .Gt (.ix (.var 6) (.con (.int 1))) (.con (.int 0)))) [6]) .nil)) (.cons (.bi .len (.cons (.lc false (.con (.int 1)) (.nm 6) (.seq (.var 1)) (.so (.cmp .Eq (.ix (.var 6) (.con (.int 1))) (.con (.int 2)))) [6]) .nil)) .nil))))) (.cons (.ret (.so (.and_ (.cmp .Eq (.var 2) (.var 3)) (.cmp .Eq (.bi .repr (.cons (.var 2) .nil)) (.bi .repr (.cons (.var 3) .nil)))))) .nil)))
def g20 : GF := ⟨2, 7, b20, [((2, []), [.pos 0, .pos 1])]⟩
def d20 : He.DefD := ⟨("_law_is", none), "_law_is", "_law_is", defArgs (top 20), defBody (top 20), defScope (top 20), [], []⟩
def t20 : Dt := ⟨d20, g20, ["disk", "row", "told", "due", "sign", "mark", "item"], ["disk", "row"]⟩
/-- _law_done -/
def b21 : ISs := (.cons (.par [2, 3] (.cons (.make 0 .nil [] .nil) (.cons (.lst false .nil) .nil))) (.cons (.for_ (.nm 4) (.seq (.var 0)) (.cons (.asg 3 (.call 17 (.cons (.var 3) (.cons (.var 4) .nil)) [] .nil)) (.cons (.ife (.not_ (.call 19 (.cons (.var 2) (.cons (.var 4) (.cons (.var 1) .nil))) [] .nil)) (.cons (.ret (.so (.lst false .nil))) .nil) (.nil)) .nil))) (.cons (.ret (.so (.lst false (.cons (.var 2) (.cons (.var 3) .nil))))) .nil)))
def g21 : GF := ⟨2, 5, b21, [((2, []), [.pos 0, .pos 1])]⟩
def d21 : He.DefD := ⟨("_law_done", none), "_law_done", "_law_done", defArgs (top 21), defBody (top 21), defScope (top 21), [], []⟩
def t21 : Dt := ⟨d21, g21, ["deeds", "turn", "disk", "row", "deed"], ["deeds", "turn"]⟩
/-- _law_left_right -/
def b22 : ISs := (.cons (.unp [3, 4] (.var 0)) (.cons (.ife (.not_ (.call 20 (.cons (.var 3) (.cons (.var 4) .nil)) [] .nil)) (.cons (.ret (.so (.con (.bl false)))) .nil) (.nil)) (.cons (.par [5, 6] (.cons (.att (.var 3) "text") (.cons (.att (.var 3) "settled") .nil))) (.cons (.asg 7 (.ife (.cmp .Eq (.ix (.var 1) (.con (.int 0))) (.con (.str (Str.ofString "fall")))) (.att (.var 3) "synced") (.var 6))) (.cons (.ife (.or_ (.not_ (.call 19 (.cons (.var 3) (.cons (.var 1) (.cons (.var 2) .nil))) [] .nil)) (.not_ (.call 20 (.cons (.var 3) (.cons (.call 17 (.cons (.var 4) (.cons (.var 1) .nil)) [] .nil) .nil)) [] .nil))) (.cons (.ret (.so (.con (.bl false)))) .nil) (.nil)) (.cons (.asg 8 (.bi .len (.cons (.att (.var 3) "text") .nil))) (.cons (.ret (.so (.and_ (.cmp .LtE (.var 7) (.var 8)) (.and_ (.cmp .Eq (.att (.var 3) "text") (.sl (.var 5) .no (.so (.var 8)))) (.and_ (.cmp .Eq (.att (.var 3) "synced") (.var 8)) (.cmp .Eq (.att (.var 3) "settled") (.var 6))))))) .nil)))))))
def g22 : GF := ⟨3, 9, b22, [((3, []), [.pos 0, .pos 1, .pos 2])]⟩
def d22 : He.DefD := ⟨("_law_left_right", none), "_law_left_right", "_law_left_right", defArgs (top 22), defBody (top 22), defScope (top 22), [], []⟩
def t22 : Dt := ⟨d22, g22, ["pair", "deed", "turn", "disk", "row", "before", "settled", "least", "many"], ["pair", "deed", "turn"]⟩
/-- _law_on_right -/
def b23 : ISs := (.cons (.unp [2, 3] (.var 1)) (.cons (.for_ (.nm 4) (.rng (.cons (.con (.int 5)) .nil)) (.cons (.asg 5 (.ife (.cmp .In (.var 4) (.lst false (.cons (.con (.int 0)) (.cons (.con (.int 2)) .nil)))) (.call 18 (.cons (.var 0) (.cons (.var 3) .nil)) [] .nil) (.lst false (.cons (.ix (.lst false (.cons (.con (.str (Str.ofString "lose"))) (.cons (.con (.str (Str.ofString "fall"))) .nil))) (.call 14 (.cons (.var 0) (.cons (.con (.int 2)) .nil)) [] .nil)) (.cons (.call 14 (.cons (.var 0) (.cons (.bin .Add (.bi .len (.cons (.var 3) .nil)) (.con (.int 2))) .nil)) [] .nil) .nil))))) (.cons (.asg 3 (.call 17 (.cons (.var 3) (.cons (.var 5) .nil)) [] .nil)) (.cons (.ife (.or_ (.not_ (.call 19 (.cons (.var 2) (.cons (.var 5) (.cons (.bin .Mod (.bi .int (.cons (.var 4) .nil)) (.con (.int 2))) .nil))) [] .nil)) (.not_ (.call 20 (.cons (.var 2) (.cons (.var 3) .nil)) [] .nil))) (.cons (.ret (.so (.con (.bl false)))) .nil) (.nil)) .nil)))) (.cons (.ret (.so (.con (.bl true)))) .nil)))
def g23 : GF := ⟨2, 6, b23, [((2, []), [.pos 0, .pos 1])]⟩
def d23 : He.DefD := ⟨("_law_on_right", none), "_law_on_right", "_law_on_right", defArgs (top 23), defBody (top 23), defScope (top 23), [], []⟩
def t23 : Dt := ⟨d23, g23, ["box", "pair", "disk", "row", "turn", "deed"], ["box", "pair"]⟩
/-- _law_swapped_right -/
def b24 : ISs := (.cons (.unp [2, 3] (.var 1)) (.cons (.asg 4 (.bin .Add (.bm (.con (.str (Str.ofString ""))) .join (.cons (.lc false (.con (.str (Str.ofString "#"))) (.nm 8) (.seq (.var 3)) .no [8]) .nil)) (.call 15 (.cons (.var 0) (.cons (.call 14 (.cons (.var 0) (.cons (.con (.int 4)) .nil)) [] .nil) .nil)) [] .nil))) (.cons (.asg 5 (.call 14 (.cons (.var 0) (.cons (.bin .Add (.bi .len (.cons (.var 4) .nil)) (.con (.int 1))) .nil)) [] .nil)) (.cons (.asg 6 (.lst false (.cons (.lst false (.cons (.con (.str (Str.ofString "swap"))) (.cons (.var 4) (.cons (.var 5) .nil)))) (.cons (.lst false (.cons (.con (.str (Str.ofString "put"))) (.cons (.con (.str (Str.ofString "new"))) .nil))) (.cons (.lst false (.cons (.con (.str (Str.ofString "lose"))) (.cons (.call 14 (.cons (.var 0) (.cons (.bin .Add (.bi .len (.cons (.var 4) .nil)) (.con (.int 5))) .nil)) [] .nil) .nil))) (.cons (.lst false (.cons (.con (.str (Str.ofString "fall"))) (.cons (.con (.int 1)) .nil))) (.cons (.lst false (.cons (.con (.str (Str.ofString "lose"))) (.cons (.con (.int 0)) .nil))) .nil))))))) (.cons (.for_ (.nm 7) (.seq (.var 6)) (.cons (.asg 3 (.call 17 (.cons (.var 3) (.cons (.var 7) .nil)) [] .nil)) (.cons (.ife (.or_ (.not_ (.call 19 (.cons (.var 2) (.cons (.var 7) (.cons (.bin .Mod (.bi .int (.cons (.var 5) .nil)) (.con (.int 2))) .nil))) [] .nil)) (.not_ (.call 20 (.cons (.var 2) (.cons (.var 3) .nil)) [] .nil))) (.cons (.ret (.so (.con (.bl false)))) .nil) (.nil)) .nil))) (.cons (.ret (.so (.and_ (.cmp .Eq (.att (.var 2) "text") (.sl (.var 4) .no (.so (.var 5)))) (.cmp .Eq (.att (.var 2) "settled") (.var 5))))) .nil))))))
def g24 : GF := ⟨2, 9, b24, [((2, []), [.pos 0, .pos 1])]⟩
def d24 : He.DefD := ⟨("_law_swapped_right", none), "_law_swapped_right", "_law_swapped_right", defArgs (top 24), defBody (top 24), defScope (top 24), [], []⟩
def t24 : Dt := ⟨d24, g24, ["box", "pair", "disk", "row", "signs", "settled", "deeds", "deed", "item"], ["box", "pair"]⟩
/-- _law_great_right -/
def b25 : ISs := (.cons (.par [1, 2] (.cons (.bin .Add (.con (.int 1)) (.call 14 (.cons (.var 0) (.cons (.con (.int 5600)) .nil)) [] .nil)) (.cons (.make 0 .nil [] .nil) .nil))) (.cons (.par [3, 4] (.cons (.call 14 (.cons (.var 0) (.cons (.bin .Add (.bin .Mult (.con (.int 3)) (.var 1)) (.con (.int 1))) .nil)) [] .nil) (.cons (.call 14 (.cons (.var 0) (.cons (.bin .Add (.bin .Mult (.con (.int 6)) (.var 1)) (.con (.int 1))) .nil)) [] .nil) .nil))) (.cons (.for_ (.nm 5) (.rng (.cons (.con (.int 3)) .nil)) (.cons (.exp (.meth (.var 2) "put" (.cons (.bin .Mult (.con (.str (Str.ofString "ab"))) (.var 1)) .nil) [] .nil)) .nil)) (.cons (.asg 6 (.lst false (.cons (.cmp .Eq (.att (.var 2) "text") (.bin .Mult (.con (.str (Str.ofString "ab"))) (.bin .Mult (.con (.int 3)) (.var 1)))) (.cons (.att (.var 2) "synced") (.cons (.att (.var 2) "settled") .nil))))) (.cons (.exp (.meth (.var 2) "fall" (.cons (.var 4) .nil) [] .nil)) (.cons (.asg 7 (.bin .Mod (.bi .int (.cons (.var 4) .nil)) (.bin .Add (.bin .Mult (.con (.int 6)) (.var 1)) (.con (.int 1))))) (.cons (.exp (.meth (.var 2) "put" (.cons (.bin .Mult (.con (.str (Str.ofString "c"))) (.var 1)) .nil) [] .nil)) (.cons (.exp (.meth (.var 2) "settle" (.cons (.bi .min (.cons (.var 3) (.cons (.var 7) .nil))) .nil) [] .nil)) (.cons (.exp (.meth (.var 2) "lose" (.cons (.bin .FloorDiv (.var 4) (.con (.int 2))) .nil) [] .nil)) (.cons (.asg 8 (.bi .max (.cons (.bin .FloorDiv (.var 4) (.con (.int 2))) (.cons (.bi .min (.cons (.var 3) (.cons (.var 7) .nil))) .nil)))) (.cons (.asg 9 (.lst false (.cons (.cmp .Eq (.att (.var 2) "text") (.sl (.bin .Add (.sl (.bin .Mult (.con (.str (Str.ofString "ab"))) (.bin .Mult (.con (.int 3)) (.var 1))) .no (.so (.var 7))) (.bin .Mult (.con (.str (Str.ofString "c"))) (.var 1))) .no (.so (.var 8)))) (.cons (.att (.var 2) "synced") (.cons (.att (.var 2) "settled") .nil))))) (.cons (.exp (.meth (.var 2) "swap" (.cons (.bin .Mult (.con (.str (Str.ofString "x"))) (.bin .Mult (.con (.int 6)) (.var 1))) (.cons (.var 3) .nil)) [] .nil)) (.cons (.exp (.meth (.var 2) "lose" (.cons (.con (.int 0)) .nil) [] .nil)) (.cons (.asg 10 (.lst false (.cons (.cmp .Eq (.att (.var 2) "text") (.bin .Mult (.con (.str (Str.ofString "x"))) (.var 3))) (.cons (.att (.var 2) "synced") (.cons (.att (.var 2) "settled") .nil))))) (.cons (.ret (.so (.cmp .Eq (.bi .repr (.cons (.lst false (.cons (.var 6) (.cons (.var 9) (.cons (.var 10) .nil)))) .nil)) (.bi .repr (.cons (.lst false (.cons (.lst false (.cons (.con (.bl true)) (.cons (.con (.int 0)) (.cons (.con (.int 0)) .nil)))) (.cons (.lst false (.cons (.con (.bl true)) (.cons (.var 8) (.cons (.bi .min (.cons (.var 3) (.cons (.var 7) .nil))) .nil)))) (.cons (.lst false (.cons (.con (.bl true)) (.cons (.var 3) (.cons (.var 3) .nil)))) .nil)))) .nil))))) .nil)))))))))))))))
def g25 : GF := ⟨1, 11, b25, [((1, []), [.pos 0])]⟩
def d25 : He.DefD := ⟨("_law_great_right", none), "_law_great_right", "_law_great_right", defArgs (top 25), defBody (top 25), defScope (top 25), [], []⟩
def t25 : Dt := ⟨d25, g25, ["box", "many", "disk", "settled", "left", "turn", "first", "kept", "due", "second", "third"], ["box"]⟩
/-- _law_right -/
def b26 : ISs := (.cons (.par [1, 2, 3] (.cons (.lst false .nil) (.cons (.lst false .nil) (.cons (.call 14 (.cons (.var 0) (.cons (.con (.int 2)) .nil)) [] .nil) .nil)))) (.cons (.for_ (.nm 4) (.rng (.cons (.bin .Add (.con (.int 4)) (.call 14 (.cons (.var 0) (.cons (.con (.int 9)) .nil)) [] .nil)) .nil)) (.cons (.exp (.bm (.var 1) .append (.cons (.call 18 (.cons (.var 0) (.cons (.var 2) .nil)) [] .nil) .nil))) (.cons (.asg 2 (.call 17 (.cons (.var 2) (.cons (.ix (.var 1) (.un .USub (.con (.int 1)))) .nil)) [] .nil)) .nil))) (.cons (.asg 5 (.call 14 (.cons (.var 0) (.cons (.bin .Add (.bi .len (.cons (.var 1) .nil)) (.con (.int 1))) .nil)) [] .nil)) (.cons (.asg 6 (.call 21 (.cons (.var 1) (.cons (.var 3) .nil)) [] .nil)) (.cons (.for_ (.nm 7) (.seq (.lst false (.cons (.sl (.var 1) .no (.so (.var 5))) (.cons (.var 1) .nil)))) (.cons (.asg 8 (.call 21 (.cons (.var 7) (.cons (.var 3) .nil)) [] .nil)) (.cons (.ife (.cmp .Eq (.var 8) (.lst false .nil)) (.cons (.ret (.so (.con (.bl false)))) .nil) (.nil)) (.cons (.asg 9 (.bi .len (.cons (.ix (.var 8) (.con (.int 1))) .nil))) (.cons (.for_ (.nm 10) (.rng (.cons (.bin .Add (.var 9) (.con (.int 2))) .nil)) (.cons (.for_ (.nm 11) (.seq (.lst false (.cons (.con (.str (Str.ofString "lose"))) (.cons (.con (.str (Str.ofString "fall"))) .nil)))) (.cons (.asg 12 (.call 21 (.cons (.var 7) (.cons (.bin .Mod (.bi .int (.cons (.bin .Add (.var 3) (.var 10)) .nil)) (.con (.int 2))) .nil)) [] .nil)) (.cons (.ife (.or_ (.cmp .Eq (.var 12) (.lst false .nil)) (.not_ (.call 22 (.cons (.var 12) (.cons (.lst false (.cons (.var 11) (.cons (.var 10) .nil))) (.cons (.bin .Mod (.bi .int (.cons (.var 10) .nil)) (.con (.int 2))) .nil))) [] .nil))) (.cons (.ret (.so (.con (.bl false)))) .nil) (.nil)) .nil))) .nil)) (.cons (.ife (.or_ (.not_ (.call 23 (.cons (.var 0) (.cons (.call 21 (.cons (.var 7) (.cons (.var 3) .nil)) [] .nil) .nil)) [] .nil)) (.not_ (.call 24 (.cons (.var 0) (.cons (.var 8) .nil)) [] .nil))) (.cons (.ret (.so (.con (.bl false)))) .nil) (.nil)) .nil)))))) (.cons (.ret (.so (.and_ (.cmp .NotEq (.var 6) (.lst false .nil)) (.call 20 (.cons (.ix (.var 6) (.con (.int 0))) (.cons (.ix (.var 6) (.con (.int 1))) .nil)) [] .nil)))) .nil))))))
def g26 : GF := ⟨1, 13, b26, [((1, []), [.pos 0])]⟩
def d26 : He.DefD := ⟨("_law_right", none), "_law_right", "_law_right", defArgs (top 26), defBody (top 26), defScope (top 26), [], []⟩
def t26 : Dt := ⟨d26, g26, ["box", "deeds", "row", "turn", "k", "cut", "whole", "part", "ready", "size", "many", "name", "pair"], ["box"]⟩
/-- law -/
def b27 : ISs := (.cons (.for_ (.nm 1) (.rng (.cons (.bi .max (.cons (.con (.int 2)) (.cons (.bi .min (.cons (.con (.int 4)) (.cons (.bi .len (.cons (.var 0) .nil)) .nil))) .nil))) .nil)) (.cons (.asg 2 (.call 13 (.cons (.call 12 (.cons (.var 0) (.cons (.var 1) .nil)) [] .nil) .nil) [] .nil)) (.cons (.ife (.or_ (.not_ (.call 26 (.cons (.var 2) .nil) [] .nil)) (.and_ (.cmp .Eq (.var 1) (.con (.int 1))) (.not_ (.call 25 (.cons (.var 2) .nil) [] .nil)))) (.cons (.ret (.so (.con (.bl false)))) .nil) (.nil)) .nil))) (.cons (.ret (.so (.con (.bl true)))) .nil))
def g27 : GF := ⟨1, 3, b27, [((1, []), [.pos 0])]⟩
def d27 : He.DefD := ⟨("law", none), "law", "law", defArgs (top 27), defBody (top 27), defScope (top 27), [], []⟩
def t27 : Dt := ⟨d27, g27, ["script", "k", "box"], ["script"]⟩
def dts : List Dt := [t0, t1, t2, t3, t4, t5, t6, t7, t8, t9, t10, t11, t12, t13, t14, t15, t16, t17, t18, t19, t20, t21, t22, t23, t24, t25, t26, t27]
def cls : List (Str × GC) := [("Disk", ⟨"Disk", true, some 4, [("put", 5), ("sync", 6), ("trim", 7), ("fall", 8), ("lose", 9), ("settle", 10), ("swap", 11)], ["text", "synced", "settled"], [], []⟩)]
def con : List (Str × CV) := []
def nm : Nm := ⟨[(0, "is_integer"), (1, "is_count"), (2, "is_signs"), (3, "is_between"), (12, "_law_cell"), (13, "_law_box"), (14, "_law_take"), (15, "_law_some"), (16, "_law_with"), (17, "_law_behind"), (18, "_law_deed"), (19, "_law_do"), (20, "_law_is"), (21, "_law_done"), (22, "_law_left_right"), (23, "_law_on_right"), (24, "_law_swapped_right"), (25, "_law_great_right"), (26, "_law_right"), (27, "law")], [(0, "Disk")], ["abs", "all", "bool", "int", "isinstance", "len", "max", "min", "range", "repr", "str", "sum"], []⟩
def md : Md := ⟨nm, dts, cls, con⟩
abbrev T : Tab := md.T
theorem T_f0 : T.fns 0 = some g0 := rfl
theorem T_f1 : T.fns 1 = some g1 := rfl
theorem T_f2 : T.fns 2 = some g2 := rfl
theorem T_f3 : T.fns 3 = some g3 := rfl
theorem T_f4 : T.fns 4 = some g4 := rfl
theorem T_f5 : T.fns 5 = some g5 := rfl
theorem T_f6 : T.fns 6 = some g6 := rfl
theorem T_f7 : T.fns 7 = some g7 := rfl
theorem T_f8 : T.fns 8 = some g8 := rfl
theorem T_f9 : T.fns 9 = some g9 := rfl
theorem T_f10 : T.fns 10 = some g10 := rfl
theorem T_f11 : T.fns 11 = some g11 := rfl
theorem T_f12 : T.fns 12 = some g12 := rfl
theorem T_f13 : T.fns 13 = some g13 := rfl
theorem T_f14 : T.fns 14 = some g14 := rfl
theorem T_f15 : T.fns 15 = some g15 := rfl
theorem T_f16 : T.fns 16 = some g16 := rfl
theorem T_f17 : T.fns 17 = some g17 := rfl
theorem T_f18 : T.fns 18 = some g18 := rfl
theorem T_f19 : T.fns 19 = some g19 := rfl
theorem T_f20 : T.fns 20 = some g20 := rfl
theorem T_f21 : T.fns 21 = some g21 := rfl
theorem T_f22 : T.fns 22 = some g22 := rfl
theorem T_f23 : T.fns 23 = some g23 := rfl
theorem T_f24 : T.fns 24 = some g24 := rfl
theorem T_f25 : T.fns 25 = some g25 := rfl
theorem T_f26 : T.fns 26 = some g26 := rfl
theorem T_f27 : T.fns 27 = some g27 := rfl
theorem T_c0 : T.cls 0 = some ⟨"Disk", true, some 4, [("put", 5), ("sync", 6), ("trim", 7), ("fall", 8), ("lose", 9), ("settle", 10), ("swap", 11)], ["text", "synced", "settled"], [], []⟩ := rfl
theorem s0_0 : Bind0 t0 (g0.shapes[0]) := fun kV doc pm an cdv ct us ws h1 h2 => match us, ws, h1, h2 with
  | [u0], [], _, _ => ⟨[u0], by kernel_rfl, .cons rfl (.nil)⟩
theorem bd0 : BindOk t0 := .inl ⟨rfl, List.forall_mem_cons.mpr ⟨s0_0, List.forall_mem_nil _⟩⟩
theorem s1_0 : Bind0 t1 (g1.shapes[0]) := fun kV doc pm an cdv ct us ws h1 h2 => match us, ws, h1, h2 with
  | [u0], [], _, _ => ⟨[u0], by kernel_rfl, .cons rfl (.nil)⟩
theorem bd1 : BindOk t1 := .inl ⟨rfl, List.forall_mem_cons.mpr ⟨s1_0, List.forall_mem_nil _⟩⟩
theorem s2_0 : BindD t2 (g2.shapes[0]) := fun Ta kV doc pm an cdv ct us ws its h1 h2 h3 => match us, ws, its, h1, h2, h3 with
  | [u0], [], [e0], _, _, _ => ⟨[u0, e0], _, by rfl, by rfl, .cons rfl (.cons ⟨0, _, rfl, rfl, rfl⟩ (.nil))⟩
theorem bd2 : BindOk t2 := .inr ⟨(by intro z; cases z), List.forall_mem_cons.mpr ⟨s2_0, List.forall_mem_nil _⟩⟩
theorem s3_0 : Bind0 t3 (g3.shapes[0]) := fun kV doc pm an cdv ct us ws h1 h2 => match us, ws, h1, h2 with
  | [u0, u1, u2], [], _, _ => ⟨[u0, u1, u2], by kernel_rfl, .cons rfl (.cons rfl (.cons rfl (.nil)))⟩
theorem bd3 : BindOk t3 := .inl ⟨rfl, List.forall_mem_cons.mpr ⟨s3_0, List.forall_mem_nil _⟩⟩
theorem s4_0 : Bind0 t4 (g4.shapes[0]) := fun kV doc pm an cdv ct us ws h1 h2 => match us, ws, h1, h2 with
  | [u0], [], _, _ => ⟨[u0], by kernel_rfl, .cons rfl (.nil)⟩
theorem bd4 : BindOk t4 := .inl ⟨rfl, List.forall_mem_cons.mpr ⟨s4_0, List.forall_mem_nil _⟩⟩
theorem s5_0 : Bind0 t5 (g5.shapes[0]) := fun kV doc pm an cdv ct us ws h1 h2 => match us, ws, h1, h2 with
  | [u0, u1], [], _, _ => ⟨[u0, u1], by kernel_rfl, .cons rfl (.cons rfl (.nil))⟩
theorem s5_1 : Bind0 t5 (g5.shapes[1]) := fun kV doc pm an cdv ct us ws h1 h2 => match us, ws, h1, h2 with
  | [u0], [w0], _, _ => ⟨[u0, w0], by kernel_rfl, .cons rfl (.cons rfl (.nil))⟩
theorem bd5 : BindOk t5 := .inl ⟨rfl, List.forall_mem_cons.mpr ⟨s5_0, List.forall_mem_cons.mpr ⟨s5_1, List.forall_mem_nil _⟩⟩⟩
theorem s6_0 : Bind0 t6 (g6.shapes[0]) := fun kV doc pm an cdv ct us ws h1 h2 => match us, ws, h1, h2 with
  | [u0], [], _, _ => ⟨[u0], by kernel_rfl, .cons rfl (.nil)⟩
theorem bd6 : BindOk t6 := .inl ⟨rfl, List.forall_mem_cons.mpr ⟨s6_0, List.forall_mem_nil _⟩⟩
theorem s7_0 : Bind0 t7 (g7.shapes[0]) := fun kV doc pm an cdv ct us ws h1 h2 => match us, ws, h1, h2 with
  | [u0, u1], [], _, _ => ⟨[u0, u1], by kernel_rfl, .cons rfl (.cons rfl (.nil))⟩
theorem s7_1 : Bind0 t7 (g7.shapes[1]) := fun kV doc pm an cdv ct us ws h1 h2 => match us, ws, h1, h2 with
  | [u0], [w0], _, _ => ⟨[u0, w0], by kernel_rfl, .cons rfl (.cons rfl (.nil))⟩
theorem bd7 : BindOk t7 := .inl ⟨rfl, List.forall_mem_cons.mpr ⟨s7_0, List.forall_mem_cons.mpr ⟨s7_1, List.forall_mem_nil _⟩⟩⟩
theorem s8_0 : Bind0 t8 (g8.shapes[0]) := fun kV doc pm an cdv ct us ws h1 h2 => match us, ws, h1, h2 with
  | [u0, u1], [], _, _ => ⟨[u0, u1], by kernel_rfl, .cons rfl (.cons rfl (.nil))⟩
theorem s8_1 : Bind0 t8 (g8.shapes[1]) := fun kV doc pm an cdv ct us ws h1 h2 => match us, ws, h1, h2 with
  | [u0], [w0], _, _ => ⟨[u0, w0], by kernel_rfl, .cons rfl (.cons rfl (.nil))⟩
theorem bd8 : BindOk t8 := .inl ⟨rfl, List.forall_mem_cons.mpr ⟨s8_0, List.forall_mem_cons.mpr ⟨s8_1, List.forall_mem_nil _⟩⟩⟩
theorem s9_0 : Bind0 t9 (g9.shapes[0]) := fun kV doc pm an cdv ct us ws h1 h2 => match us, ws, h1, h2 with
  | [u0, u1], [], _, _ => ⟨[u0, u1], by kernel_rfl, .cons rfl (.cons rfl (.nil))⟩
theorem s9_1 : Bind0 t9 (g9.shapes[1]) := fun kV doc pm an cdv ct us ws h1 h2 => match us, ws, h1, h2 with
  | [u0], [w0], _, _ => ⟨[u0, w0], by kernel_rfl, .cons rfl (.cons rfl (.nil))⟩
theorem bd9 : BindOk t9 := .inl ⟨rfl, List.forall_mem_cons.mpr ⟨s9_0, List.forall_mem_cons.mpr ⟨s9_1, List.forall_mem_nil _⟩⟩⟩
theorem s10_0 : Bind0 t10 (g10.shapes[0]) := fun kV doc pm an cdv ct us ws h1 h2 => match us, ws, h1, h2 with
  | [u0, u1], [], _, _ => ⟨[u0, u1], by kernel_rfl, .cons rfl (.cons rfl (.nil))⟩
theorem s10_1 : Bind0 t10 (g10.shapes[1]) := fun kV doc pm an cdv ct us ws h1 h2 => match us, ws, h1, h2 with
  | [u0], [w0], _, _ => ⟨[u0, w0], by kernel_rfl, .cons rfl (.cons rfl (.nil))⟩
theorem bd10 : BindOk t10 := .inl ⟨rfl, List.forall_mem_cons.mpr ⟨s10_0, List.forall_mem_cons.mpr ⟨s10_1, List.forall_mem_nil _⟩⟩⟩
theorem s11_0 : Bind0 t11 (g11.shapes[0]) := fun kV doc pm an cdv ct us ws h1 h2 => match us, ws, h1, h2 with
  | [u0, u1, u2], [], _, _ => ⟨[u0, u1, u2], by kernel_rfl, .cons rfl (.cons rfl (.cons rfl (.nil)))⟩
theorem s11_1 : Bind0 t11 (g11.shapes[1]) := fun kV doc pm an cdv ct us ws h1 h2 => match us, ws, h1, h2 with
  | [u0], [w0, w1], _, _ => ⟨[u0, w1, w0], by kernel_rfl, .cons rfl (.cons rfl (.cons rfl (.nil)))⟩
theorem bd11 : BindOk t11 := .inl ⟨rfl, List.forall_mem_cons.mpr ⟨s11_0, List.forall_mem_cons.mpr ⟨s11_1, List.forall_mem_nil _⟩⟩⟩
theorem s12_0 : Bind0 t12 (g12.shapes[0]) := fun kV doc pm an cdv ct us ws h1 h2 => match us, ws, h1, h2 with
  | [u0, u1], [], _, _ => ⟨[u0, u1], by kernel_rfl, .cons rfl (.cons rfl (.nil))⟩
theorem bd12 : BindOk t12 := .inl ⟨rfl, List.forall_mem_cons.mpr ⟨s12_0, List.forall_mem_nil _⟩⟩
theorem s13_0 : Bind0 t13 (g13.shapes[0]) := fun kV doc pm an cdv ct us ws h1 h2 => match us, ws, h1, h2 with
  | [u0], [], _, _ => ⟨[u0], by kernel_rfl, .cons rfl (.nil)⟩
theorem bd13 : BindOk t13 := .inl ⟨rfl, List.forall_mem_cons.mpr ⟨s13_0, List.forall_mem_nil _⟩⟩
theorem s14_0 : Bind0 t14 (g14.shapes[0]) := fun kV doc pm an cdv ct us ws h1 h2 => match us, ws, h1, h2 with
  | [u0, u1], [], _, _ => ⟨[u0, u1], by kernel_rfl, .cons rfl (.cons rfl (.nil))⟩
theorem bd14 : BindOk t14 := .inl ⟨rfl, List.forall_mem_cons.mpr ⟨s14_0, List.forall_mem_nil _⟩⟩
theorem s15_0 : Bind0 t15 (g15.shapes[0]) := fun kV doc pm an cdv ct us ws h1 h2 => match us, ws, h1, h2 with
  | [u0, u1], [], _, _ => ⟨[u0, u1], by kernel_rfl, .cons rfl (.cons rfl (.nil))⟩
theorem bd15 : BindOk t15 := .inl ⟨rfl, List.forall_mem_cons.mpr ⟨s15_0, List.forall_mem_nil _⟩⟩
theorem s16_0 : Bind0 t16 (g16.shapes[0]) := fun kV doc pm an cdv ct us ws h1 h2 => match us, ws, h1, h2 with
  | [u0, u1], [], _, _ => ⟨[u0, u1], by kernel_rfl, .cons rfl (.cons rfl (.nil))⟩
theorem bd16 : BindOk t16 := .inl ⟨rfl, List.forall_mem_cons.mpr ⟨s16_0, List.forall_mem_nil _⟩⟩
theorem s17_0 : Bind0 t17 (g17.shapes[0]) := fun kV doc pm an cdv ct us ws h1 h2 => match us, ws, h1, h2 with
  | [u0, u1], [], _, _ => ⟨[u0, u1], by kernel_rfl, .cons rfl (.cons rfl (.nil))⟩
theorem bd17 : BindOk t17 := .inl ⟨rfl, List.forall_mem_cons.mpr ⟨s17_0, List.forall_mem_nil _⟩⟩
theorem s18_0 : Bind0 t18 (g18.shapes[0]) := fun kV doc pm an cdv ct us ws h1 h2 => match us, ws, h1, h2 with
  | [u0, u1], [], _, _ => ⟨[u0, u1], by kernel_rfl, .cons rfl (.cons rfl (.nil))⟩
theorem bd18 : BindOk t18 := .inl ⟨rfl, List.forall_mem_cons.mpr ⟨s18_0, List.forall_mem_nil _⟩⟩
theorem s19_0 : Bind0 t19 (g19.shapes[0]) := fun kV doc pm an cdv ct us ws h1 h2 => match us, ws, h1, h2 with
  | [u0, u1, u2], [], _, _ => ⟨[u0, u1, u2], by kernel_rfl, .cons rfl (.cons rfl (.cons rfl (.nil)))⟩
theorem bd19 : BindOk t19 := .inl ⟨rfl, List.forall_mem_cons.mpr ⟨s19_0, List.forall_mem_nil _⟩⟩
theorem s20_0 : Bind0 t20 (g20.shapes[0]) := fun kV doc pm an cdv ct us ws h1 h2 => match us, ws, h1, h2 with
  | [u0, u1], [], _, _ => ⟨[u0, u1], by kernel_rfl, .cons rfl (.cons rfl (.nil))⟩
theorem bd20 : BindOk t20 := .inl ⟨rfl, List.forall_mem_cons.mpr ⟨s20_0, List.forall_mem_nil _⟩⟩
theorem s21_0 : Bind0 t21 (g21.shapes[0]) := fun kV doc pm an cdv ct us ws h1 h2 => match us, ws, h1, h2 with
  | [u0, u1], [], _, _ => ⟨[u0, u1], by kernel_rfl, .cons rfl (.cons rfl (.nil))⟩
theorem bd21 : BindOk t21 := .inl ⟨rfl, List.forall_mem_cons.mpr ⟨s21_0, List.forall_mem_nil _⟩⟩
theorem s22_0 : Bind0 t22 (g22.shapes[0]) := fun kV doc pm an cdv ct us ws h1 h2 => match us, ws, h1, h2 with
  | [u0, u1, u2], [], _, _ => ⟨[u0, u1, u2], by kernel_rfl, .cons rfl (.cons rfl (.cons rfl (.nil)))⟩
theorem bd22 : BindOk t22 := .inl ⟨rfl, List.forall_mem_cons.mpr ⟨s22_0, List.forall_mem_nil _⟩⟩
theorem s23_0 : Bind0 t23 (g23.shapes[0]) := fun kV doc pm an cdv ct us ws h1 h2 => match us, ws, h1, h2 with
  | [u0, u1], [], _, _ => ⟨[u0, u1], by kernel_rfl, .cons rfl (.cons rfl (.nil))⟩
theorem bd23 : BindOk t23 := .inl ⟨rfl, List.forall_mem_cons.mpr ⟨s23_0, List.forall_mem_nil _⟩⟩
theorem s24_0 : Bind0 t24 (g24.shapes[0]) := fun kV doc pm an cdv ct us ws h1 h2 => match us, ws, h1, h2 with
  | [u0, u1], [], _, _ => ⟨[u0, u1], by kernel_rfl, .cons rfl (.cons rfl (.nil))⟩
theorem bd24 : BindOk t24 := .inl ⟨rfl, List.forall_mem_cons.mpr ⟨s24_0, List.forall_mem_nil _⟩⟩
theorem s25_0 : Bind0 t25 (g25.shapes[0]) := fun kV doc pm an cdv ct us ws h1 h2 => match us, ws, h1, h2 with
  | [u0], [], _, _ => ⟨[u0], by kernel_rfl, .cons rfl (.nil)⟩
theorem bd25 : BindOk t25 := .inl ⟨rfl, List.forall_mem_cons.mpr ⟨s25_0, List.forall_mem_nil _⟩⟩
theorem s26_0 : Bind0 t26 (g26.shapes[0]) := fun kV doc pm an cdv ct us ws h1 h2 => match us, ws, h1, h2 with
  | [u0], [], _, _ => ⟨[u0], by kernel_rfl, .cons rfl (.nil)⟩
theorem bd26 : BindOk t26 := .inl ⟨rfl, List.forall_mem_cons.mpr ⟨s26_0, List.forall_mem_nil _⟩⟩
theorem s27_0 : Bind0 t27 (g27.shapes[0]) := fun kV doc pm an cdv ct us ws h1 h2 => match us, ws, h1, h2 with
  | [u0], [], _, _ => ⟨[u0], by kernel_rfl, .cons rfl (.nil)⟩
theorem bd27 : BindOk t27 := .inl ⟨rfl, List.forall_mem_cons.mpr ⟨s27_0, List.forall_mem_nil _⟩⟩
theorem ck0 : t0.ok nm = true := by decide +kernel
theorem ck1 : t1.ok nm = true := by decide +kernel
theorem ck2 : t2.ok nm = true := by decide +kernel
theorem ck3 : t3.ok nm = true := by decide +kernel
theorem ck4 : t4.ok nm = true := by decide +kernel
theorem ck5 : t5.ok nm = true := by decide +kernel
theorem ck6 : t6.ok nm = true := by decide +kernel
theorem ck7 : t7.ok nm = true := by decide +kernel
theorem ck8 : t8.ok nm = true := by decide +kernel
theorem ck9 : t9.ok nm = true := by decide +kernel
theorem ck10 : t10.ok nm = true := by decide +kernel
theorem ck11 : t11.ok nm = true := by decide +kernel
theorem ck12 : t12.ok nm = true := by decide +kernel
theorem ck13 : t13.ok nm = true := by decide +kernel
theorem ck14 : t14.ok nm = true := by decide +kernel
theorem ck15 : t15.ok nm = true := by decide +kernel
theorem ck16 : t16.ok nm = true := by decide +kernel
theorem ck17 : t17.ok nm = true := by decide +kernel
theorem ck18 : t18.ok nm = true := by decide +kernel
theorem ck19 : t19.ok nm = true := by decide +kernel
theorem ck20 : t20.ok nm = true := by decide +kernel
theorem ck21 : t21.ok nm = true := by decide +kernel
theorem ck22 : t22.ok nm = true := by decide +kernel
theorem ck23 : t23.ok nm = true := by decide +kernel
theorem ck24 : t24.ok nm = true := by decide +kernel
theorem ck25 : t25.ok nm = true := by decide +kernel
theorem ck26 : t26.ok nm = true := by decide +kernel
theorem ck27 : t27.ok nm = true := by decide +kernel
theorem nmB : md.nmB = true := by decide +kernel
theorem bds : ∀ t ∈ md.dts, BindOk t := List.forall_mem_cons.mpr ⟨bd0, List.forall_mem_cons.mpr ⟨bd1, List.forall_mem_cons.mpr ⟨bd2, List.forall_mem_cons.mpr ⟨bd3, List.forall_mem_cons.mpr ⟨bd4, List.forall_mem_cons.mpr ⟨bd5, List.forall_mem_cons.mpr ⟨bd6, List.forall_mem_cons.mpr ⟨bd7, List.forall_mem_cons.mpr ⟨bd8, List.forall_mem_cons.mpr ⟨bd9, List.forall_mem_cons.mpr ⟨bd10, List.forall_mem_cons.mpr ⟨bd11, List.forall_mem_cons.mpr ⟨bd12, List.forall_mem_cons.mpr ⟨bd13, List.forall_mem_cons.mpr ⟨bd14, List.forall_mem_cons.mpr ⟨bd15, List.forall_mem_cons.mpr ⟨bd16, List.forall_mem_cons.mpr ⟨bd17, List.forall_mem_cons.mpr ⟨bd18, List.forall_mem_cons.mpr ⟨bd19, List.forall_mem_cons.mpr ⟨bd20, List.forall_mem_cons.mpr ⟨bd21, List.forall_mem_cons.mpr ⟨bd22, List.forall_mem_cons.mpr ⟨bd23, List.forall_mem_cons.mpr ⟨bd24, List.forall_mem_cons.mpr ⟨bd25, List.forall_mem_cons.mpr ⟨bd26, List.forall_mem_cons.mpr ⟨bd27, List.forall_mem_nil _⟩⟩⟩⟩⟩⟩⟩⟩⟩⟩⟩⟩⟩⟩⟩⟩⟩⟩⟩⟩⟩⟩⟩⟩⟩⟩⟩⟩
theorem cks : ∀ t ∈ md.dts, t.ok md.M = true := List.forall_mem_cons.mpr ⟨ck0, List.forall_mem_cons.mpr ⟨ck1, List.forall_mem_cons.mpr ⟨ck2, List.forall_mem_cons.mpr ⟨ck3, List.forall_mem_cons.mpr ⟨ck4, List.forall_mem_cons.mpr ⟨ck5, List.forall_mem_cons.mpr ⟨ck6, List.forall_mem_cons.mpr ⟨ck7, List.forall_mem_cons.mpr ⟨ck8, List.forall_mem_cons.mpr ⟨ck9, List.forall_mem_cons.mpr ⟨ck10, List.forall_mem_cons.mpr ⟨ck11, List.forall_mem_cons.mpr ⟨ck12, List.forall_mem_cons.mpr ⟨ck13, List.forall_mem_cons.mpr ⟨ck14, List.forall_mem_cons.mpr ⟨ck15, List.forall_mem_cons.mpr ⟨ck16, List.forall_mem_cons.mpr ⟨ck17, List.forall_mem_cons.mpr ⟨ck18, List.forall_mem_cons.mpr ⟨ck19, List.forall_mem_cons.mpr ⟨ck20, List.forall_mem_cons.mpr ⟨ck21, List.forall_mem_cons.mpr ⟨ck22, List.forall_mem_cons.mpr ⟨ck23, List.forall_mem_cons.mpr ⟨ck24, List.forall_mem_cons.mpr ⟨ck25, List.forall_mem_cons.mpr ⟨ck26, List.forall_mem_cons.mpr ⟨ck27, List.forall_mem_nil _⟩⟩⟩⟩⟩⟩⟩⟩⟩⟩⟩⟩⟩⟩⟩⟩⟩⟩⟩⟩⟩⟩⟩⟩⟩⟩⟩⟩
end K06
set_option Elab.async false
set_option linter.all false
set_option maxRecDepth 100000
namespace K06
/-! ### the plain law: a file's rows of marks -/
structure Dk where
  t : List Nat
  sy : Nat
  se : Nat
inductive Deed where
  | put (x : List Nat) | sync | settle (n : Nat) | swap (x : List Nat) (n : Nat) | trim (n : Nat) | lose (n : Nat) | fall (n : Nat)
def okc (x : List Nat) : Prop := ∀ c ∈ x, 32 ≤ c ∧ c ≤ 126
structure Dk.inv (D : Dk) : Prop where
  a : D.se ≤ D.sy
  b : D.sy ≤ D.t.length
  c : okc D.t
def Deed.ok (D : Dk) : Deed → Prop
  | .put x => okc x
  | .settle n => D.se ≤ n ∧ n ≤ D.sy
  | .swap x n => okc x ∧ n ≤ x.length
  | .trim n => D.se ≤ n ∧ n ≤ D.t.length
  | _ => True
def Dk.cut (D : Dk) (n : Nat) : Dk := ⟨D.t.take n, n, D.se⟩
def Dk.did (D : Dk) : Deed → Dk
  | .put x => ⟨D.t ++ x, D.sy, D.se⟩
  | .sync => ⟨D.t, D.t.length, D.se⟩
  | .settle n => ⟨D.t, D.sy, n⟩
  | .swap x n => ⟨x, x.length, n⟩
  | .trim n => D.cut n
  | .lose n => D.cut (max D.se (min n D.t.length))
  | .fall n => D.cut (D.sy + n % (D.t.length - D.sy + 1))
theorem fall_le {a b n : Nat} (h : a ≤ b) : a + n % (b - a + 1) ≤ b := by
  have := Nat.mod_lt n (show 0 < b - a + 1 by omega)
  omega
theorem cut_inv {D : Dk} (h : D.inv) {n : Nat} (h1 : D.se ≤ n) (h2 : n ≤ D.t.length) : (D.cut n).inv :=
  ⟨h1, by show n ≤ (D.t.take n).length; rw [List.length_take]; omega, fun c hc => h.c c (List.mem_of_mem_take hc)⟩
theorem did_inv {D : Dk} (h : D.inv) {e : Deed} (he : e.ok D) : (D.did e).inv := by
  cases e with
  | put x => exact ⟨h.a, by show D.sy ≤ (D.t ++ x).length; rw [List.length_append]; have := h.b; omega, fun c hc => (List.mem_append.mp hc).elim (h.c c) (he c)⟩
  | sync => exact ⟨Nat.le_trans h.a h.b, Nat.le_refl _, h.c⟩
  | settle n => exact ⟨he.2, h.b, h.c⟩
  | swap x n => exact ⟨he.2, Nat.le_refl _, he.1⟩
  | trim n => exact cut_inv h he.1 he.2
  | lose n => exact cut_inv h (Nat.le_max_left _ _) (by have := h.a; have := h.b; omega)
  | fall n => exact cut_inv h (by have := h.a; omega) (fall_le h.b)
def mk (D : Dk) (k : Nat) : Int := if k < D.se then 2 else if k < D.sy then 1 else 0
def row (D : Dk) : List (Nat × Int) := D.t.zipIdx.map fun p => (p.1, mk D p.2)
def wth (r : List (Nat × Int)) (m : Int) : List (Nat × Int) := r.map fun p => (p.1, max m p.2)
def beh (r : List (Nat × Int)) : Deed → List (Nat × Int)
  | .put x => r ++ x.map fun c => (c, 0)
  | .sync => wth r 1
  | .swap x n => x.zipIdx.map fun p => (p.1, if p.2 < n then 2 else 1)
  | .settle n => r.zipIdx.map fun p => (p.1.1, if p.2 < n then 2 else p.1.2)
  | .trim n => wth (r.take n) 1
  | .lose n => wth ((r.zipIdx.filter fun p => decide (p.2 < n) || p.1.2 == 2).map (·.1)) 1
  | .fall n => wth (r.filter (fun p => decide (0 < p.2)) ++ (r.filter (fun p => p.2 == 0)).take (n % ((r.filter fun p => p.2 == 0).length + 1))) 1
theorem row_len (D : Dk) : (row D).length = D.t.length := by unfold row; simp
theorem row_at (D : Dk) (i : Nat) : (row D)[i]? = (D.t[i]?).map fun c => (c, mk D i) := by
  unfold row
  rw [List.getElem?_map, List.getElem?_zipIdx]
  cases D.t[i]? <;> simp
theorem wth_at (r : List (Nat × Int)) (m : Int) (i : Nat) : (wth r m)[i]? = (r[i]?).map fun p => (p.1, max m p.2) := by unfold wth; rw [List.getElem?_map]
theorem cut_row {D : Dk} (h : D.inv) {n : Nat} (h1 : D.se ≤ n) : wth ((row D).take n) 1 = row (D.cut n) := by
  apply List.ext_getElem?
  intro i
  rw [wth_at, row_at, List.getElem?_take]
  show _ = ((D.t.take n)[i]?).map _
  rw [List.getElem?_take]
  by_cases hi : i < n
  · rw [if_pos hi, if_pos hi, row_at]
    cases D.t[i]? with
    | none => rfl
    | some c =>
      simp only [Option.map_some, Option.some.injEq, Prod.mk.injEq, true_and]
      unfold mk Dk.cut
      simp only
      have := h.a
      split <;> (try split) <;> (try split) <;> (try omega) <;> rfl
  · rw [if_neg hi, if_neg hi]; rfl
theorem filter_take {α : Type} (p : α → Bool) : ∀ (l : List α) (n : Nat), (∀ (i : Nat) (x : α), l[i]? = some x → p x = decide (i < n)) → l.filter p = l.take n
  | [], n, _ => by simp
  | x :: r, 0, h => by
    have h0 := h 0 x rfl
    rw [List.filter_cons, h0]
    simp only [Nat.lt_irrefl, decide_false, Bool.false_eq_true, if_false, List.take_zero]
    have : r.filter p = r.take 0 := filter_take p r 0 (fun i y hy => by rw [h (i + 1) y (by simpa using hy)]; simp)
    simpa using this
  | x :: r, n + 1, h => by
    have h0 := h 0 x rfl
    rw [List.filter_cons, h0]
    simp only [Nat.zero_lt_succ, decide_true, if_true, List.take_succ_cons]
    rw [filter_take p r n (fun i y hy => by rw [h (i + 1) y (by simpa using hy)]; simp)]
theorem filter_drop {α : Type} (p : α → Bool) : ∀ (l : List α) (n : Nat), (∀ (i : Nat) (x : α), l[i]? = some x → p x = !decide (i < n)) → l.filter p = l.drop n
  | [], n, _ => by simp
  | x :: r, 0, h => by
    have h0 := h 0 x rfl
    rw [List.filter_cons, h0]
    simp only [Nat.lt_irrefl, decide_false, Bool.not_false, if_true, List.drop_zero]
    have : r.filter p = r.drop 0 := filter_drop p r 0 (fun i y hy => by rw [h (i + 1) y (by simpa using hy)]; simp)
    rw [this]; rfl
  | x :: r, n + 1, h => by
    have h0 := h 0 x rfl
    rw [List.filter_cons, h0]
    simp only [Nat.zero_lt_succ, decide_true, Bool.not_true, Bool.false_eq_true, if_false, List.drop_succ_cons]
    rw [filter_drop p r n (fun i y hy => by rw [h (i + 1) y (by simpa using hy)]; simp)]
theorem row_pos {D : Dk} (h : D.inv) : (row D).filter (fun p => decide (0 < p.2)) = (row D).take D.sy := by
  apply filter_take
  intro i x hx
  rw [row_at] at hx
  cases q : D.t[i]? with
  | none => rw [q] at hx; cases hx
  | some c =>
    rw [q] at hx; cases hx
    have := h.a
    unfold mk
    simp only
    split <;> (try split) <;> simp <;> omega
theorem row_zero {D : Dk} (h : D.inv) : (row D).filter (fun p => p.2 == 0) = (row D).drop D.sy := by
  apply filter_drop
  intro i x hx
  rw [row_at] at hx
  cases q : D.t[i]? with
  | none => rw [q] at hx; cases hx
  | some c =>
    rw [q] at hx; cases hx
    have := h.a
    unfold mk
    simp only
    split <;> (try split) <;> simp <;> omega
theorem row_two {D : Dk} (h : D.inv) : (row D).filter (fun p => p.2 == 2) = (row D).take D.se := by
  apply filter_take
  intro i x hx
  rw [row_at] at hx
  cases q : D.t[i]? with
  | none => rw [q] at hx; cases hx
  | some c =>
    rw [q] at hx; cases hx
    have := h.a
    unfold mk
    simp only
    split <;> (try split) <;> simp <;> omega
theorem beh_row {D : Dk} (h : D.inv) {e : Deed} (he : e.ok D) : beh (row D) e = row (D.did e) := by
  have ha := h.a
  have hb := h.b
  cases e with
  | put x =>
    apply List.ext_getElem?
    intro i
    show (row D ++ x.map fun c => (c, (0 : Int)))[i]? = (row ⟨D.t ++ x, D.sy, D.se⟩)[i]?
    rw [row_at]
    show _ = ((D.t ++ x)[i]?).map _
    by_cases hi : i < D.t.length
    · rw [List.getElem?_append_left (by rw [row_len]; exact hi), List.getElem?_append_left hi, row_at]; rfl
    · rw [List.getElem?_append_right (by rw [row_len]; omega), List.getElem?_append_right (by omega), row_len, List.getElem?_map]
      cases x[i - D.t.length]? with
      | none => rfl
      | some c =>
        simp only [Option.map_some, Option.some.injEq, Prod.mk.injEq, true_and]
        unfold mk
        rw [if_neg (show ¬ i < D.se by omega), if_neg (show ¬ i < D.sy by omega)]
  | sync =>
    have := cut_row h (n := D.t.length) (by omega)
    rw [List.take_of_length_le (by rw [row_len]; exact Nat.le_refl _)] at this
    show wth (row D) 1 = _
    rw [this]
    show row ⟨D.t.take D.t.length, D.t.length, D.se⟩ = row ⟨D.t, D.t.length, D.se⟩
    rw [List.take_length]
  | settle n =>
    apply List.ext_getElem?
    intro i
    show ((row D).zipIdx.map fun p => (p.1.1, if p.2 < n then (2 : Int) else p.1.2))[i]? = (row ⟨D.t, D.sy, n⟩)[i]?
    rw [List.getElem?_map, List.getElem?_zipIdx, row_at, row_at]
    show _ = (D.t[i]?).map _
    cases D.t[i]? with
    | none => rfl
    | some c =>
      simp only [Option.map_some, Option.some.injEq, Prod.mk.injEq, true_and, Nat.zero_add]
      unfold mk
      have h1 : D.se ≤ n := he.1
      simp only
      split
      · rfl
      · rw [if_neg (show ¬ i < D.se by omega)]
  | swap x n =>
    apply List.ext_getElem?
    intro i
    show (x.zipIdx.map fun p => (p.1, if p.2 < n then (2 : Int) else 1))[i]? = (row ⟨x, x.length, n⟩)[i]?
    rw [List.getElem?_map, List.getElem?_zipIdx, row_at]
    show _ = (x[i]?).map _
    cases q : x[i]? with
    | none => rfl
    | some c =>
      simp only [Option.map_some, Option.some.injEq, Prod.mk.injEq, true_and, Nat.zero_add]
      unfold mk
      have := (List.getElem?_eq_some_iff.mp q).1
      simp only
      rw [if_pos this]
  | trim n => exact cut_row h he.1
  | lose n =>
    have e1 : ((row D).zipIdx.filter fun p => decide (p.2 < n) || p.1.2 == 2) = (row D).zipIdx.take (max D.se (min n D.t.length)) := by
      apply filter_take
      intro i x hx
      rw [List.getElem?_zipIdx, row_at] at hx
      cases q : D.t[i]? with
      | none => rw [q] at hx; cases hx
      | some c =>
        rw [q] at hx; cases hx
        have := (List.getElem?_eq_some_iff.mp q).1
        unfold mk
        simp only [Nat.zero_add]
        rw [Bool.eq_iff_iff]
        simp only [Bool.or_eq_true, decide_eq_true_eq, beq_iff_eq]
        constructor
        · rintro (z | z)
          · omega
          · split at z
            · omega
            · split at z <;> cases z
        · intro z
          by_cases h1 : i < n
          · exact .inl h1
          · refine .inr ?_
            rw [if_pos (by omega)]
    show wth (((row D).zipIdx.filter fun p => decide (p.2 < n) || p.1.2 == 2).map (·.1)) 1 = row (D.cut (max D.se (min n D.t.length)))
    rw [e1, List.map_take, ← cut_row h (Nat.le_max_left _ _)]
    congr 2
    have : (row D).zipIdx.map (·.1) = row D := by
      apply List.ext_getElem?
      intro i
      rw [List.getElem?_map, List.getElem?_zipIdx]
      cases (row D)[i]? <;> rfl
    exact this
  | fall n =>
    show wth ((row D).filter (fun p => decide (0 < p.2)) ++ ((row D).filter (fun p => p.2 == 0)).take (n % (((row D).filter fun p => p.2 == 0).length + 1))) 1 = row (D.cut (D.sy + n % (D.t.length - D.sy + 1)))
    rw [row_pos h, row_zero h, List.length_drop, row_len, ← cut_row h (n := D.sy + n % (D.t.length - D.sy + 1)) (by omega)]
    congr 1
    rw [List.take_add]
theorem did_len {D : Dk} (h : D.inv) {e : Deed} : (D.did e).t.length ≤ D.t.length + (match e with
    | .put x => x.length
    | .swap x _ => x.length
    | _ => 0) := by
  cases e <;> simp only [Dk.did, Dk.cut, List.length_take, List.length_append] <;> omega
theorem cnt_pos {D : Dk} (h : D.inv) : ((row D).filter (fun p => decide (0 < p.2))).length = D.sy := by
  rw [row_pos h, List.length_take, row_len]; have := h.b; omega
theorem cnt_two {D : Dk} (h : D.inv) : ((row D).filter (fun p => p.2 == 2)).length = D.se := by
  rw [row_two h, List.length_take, row_len]; have := h.a; have := h.b; omega
theorem row_txt (D : Dk) : (row D).map (·.1) = D.t := by
  apply List.ext_getElem?
  intro i
  rw [List.getElem?_map, row_at]
  cases D.t[i]? <;> rfl
end K06
set_option Elab.async false
set_option linter.all false
set_option maxRecDepth 100000
set_option maxHeartbeats 4000000
namespace K06
open PySem PySem.Spec PyProof.Rows L2 GI
theorem r0 (n : Nat) (i : Int) (h : List GO) : GI.run T (n + 1) 0 [.int i] h = .ok (.bl true) h := by
  rw [run_at T_f0 rfl]
  simp [g0, b0, isiF, gvTy, tyAny, tyB]
theorem c0 {n : Nat} {i : Int} {s : GS} : callF T (GI.run T (n + 1)) 0 [.int i] [] [] s = .ok (.g (.bl true)) s := by
  rw [call_at T_f0 rfl rfl rfl, r0]; rfl
theorem r1 (n : Nat) (i : Int) (h : List GO) : GI.run T (n + 2) 1 [.int i] h = .ok (.bl (decide (0 ≤ i))) h := by
  rw [run_at T_f1 rfl]
  simp [g1, b1, c0]
theorem c1 {n : Nat} {i : Int} {s : GS} : callF T (GI.run T (n + 2)) 1 [.int i] [] [] s = .ok (.g (.bl (decide (0 ≤ i)))) s := by
  rw [call_at T_f1 rfl rfl rfl, r1]; rfl
theorem r3 (n : Nat) (i a b : Int) (h : List GO) : GI.run T (n + 2) 3 [.int i, .int a, .int b] h = .ok (.bl (decide (a ≤ i ∧ i ≤ b))) h := by
  rw [run_at T_f3 rfl]
  simp [g3, b3, c0]
  by_cases h1 : a ≤ i <;> by_cases h2 : i ≤ b <;> simp [h1, h2]
theorem c3 {n : Nat} {i a b : Int} {s : GS} : callF T (GI.run T (n + 2)) 3 [.int i, .int a, .int b] [] [] s = .ok (.g (.bl (decide (a ≤ i ∧ i ≤ b)))) s := by
  rw [call_at T_f3 rfl rfl rfl, r3]; rfl
/-! ### texts -/
def Big : Nat := 1000000
theorem big_line {n : Nat} (h : n ≤ Big) : n ≤ sizeLine := by rw [sizeLine_eq]; unfold Big at h; omega
theorem ofs1 : (Str.ofString " ").cps.toList = [32] := by decide +kernel
theorem ofs2 : (Str.ofString "~").cps.toList = [126] := by decide +kernel
theorem lt1 (a b : Nat) : ([a] < [b]) ↔ a < b := by
  constructor
  · intro h
    cases h with
    | cons h => cases h
    | rel h => exact h
  · intro h; exact .rel h
theorem r2 (n : Nat) (x : List Nat) (hx : okc x) (hz : x.length ≤ Big) (h : List GO) : GI.run T (n + 1) 2 [.str (S x), .non] h = .ok (.bl true) h := by
  rw [run_at T_f2 rfl]
  have hl : lcL (same (.g (.str (S x))) (.str (S x))) (lcS T (GI.run T n) (.chn .LtE .LtE (.con (.str (Str.ofString " "))) (.var 2) (.con (.str (Str.ofString "~")))) (.nm 2) .no [2]) (x.map fun c => .str (S [c])) [] ⟨[.val (.str (S x)), .val .non, .no], h⟩ =
      .ok (x.map fun _ => .bl true) ⟨[.val (.str (S x)), .val .non, .no], h⟩ := by
    refine lcL_mapL (fun c => .str (S [c])) (fun _ => .bl true) rfl (fun c hc => ?_) (big_line hz)
    obtain ⟨h1, h2⟩ := hx c hc
    simp [lcS, ofs1, ofs2, lt1, h1, h2]
  simp [g2, b2, isiF, gvTy, tyAny, tyB, items_S, hl, bi_alls, boolsG_map (fun _ => true)]
theorem c2 {n : Nat} {x : List Nat} (hx : okc x) (hz : x.length ≤ Big) {s : GS} : callF T (GI.run T (n + 1)) 2 [.str (S x)] [] [] s = .ok (.g (.bl true)) s := by
  rw [call_at T_f2 rfl rfl rfl, r2 n x hx hz]; rfl
/-! ### the file -/
def dko (D : Dk) : GO := .ins 0 [("text", .str (S D.t)), ("synced", .int D.sy), ("settled", .int D.se)]
theorem att_t {d : Nat} {D : Dk} {σ : List Sl} {h : List GO} (e : h[d]? = some (dko D)) : attF T (.ref d) "text" ⟨σ, h⟩ = .ok (.g (.str (S D.t))) ⟨σ, h⟩ := by
  simp [attF, clsOf, e, dko, T_c0, List.lookup]
theorem att_y {d : Nat} {D : Dk} {σ : List Sl} {h : List GO} (e : h[d]? = some (dko D)) : attF T (.ref d) "synced" ⟨σ, h⟩ = .ok (.g (.int D.sy)) ⟨σ, h⟩ := by
  simp [attF, clsOf, e, dko, T_c0, List.lookup]
theorem att_e {d : Nat} {D : Dk} {σ : List Sl} {h : List GO} (e : h[d]? = some (dko D)) : attF T (.ref d) "settled" ⟨σ, h⟩ = .ok (.g (.int D.se)) ⟨σ, h⟩ := by
  simp [attF, clsOf, e, dko, T_c0, List.lookup]
theorem put_t {d : Nat} {D : Dk} {σ : List Sl} {h : List GO} {x : List Nat} (e : h[d]? = some (dko D)) : upo (.g (.ref d)) (putFld T "text" (.str (S x))) ⟨σ, h⟩ = .ok (.g .non) ⟨σ, h.set d (dko { D with t := x })⟩ := by
  simp [upo, cont, recont, e, dko, putFld, T_c0, GI.putF]
theorem put_y {d : Nat} {D : Dk} {σ : List Sl} {h : List GO} {x : Nat} (e : h[d]? = some (dko D)) : upo (.g (.ref d)) (putFld T "synced" (.int x)) ⟨σ, h⟩ = .ok (.g .non) ⟨σ, h.set d (dko { D with sy := x })⟩ := by
  simp [upo, cont, recont, e, dko, putFld, T_c0, GI.putF]
theorem put_e {d : Nat} {D : Dk} {σ : List Sl} {h : List GO} {x : Nat} (e : h[d]? = some (dko D)) : upo (.g (.ref d)) (putFld T "settled" (.int x)) ⟨σ, h⟩ = .ok (.g .non) ⟨σ, h.set d (dko { D with se := x })⟩ := by
  simp [upo, cont, recont, e, dko, putFld, T_c0, GI.putF]
theorem sat {h : List GO} {d : Nat} {o o' : GO} (e : h[d]? = some o) : (h.set d o')[d]? = some o' := set_at e
theorem r4 (n : Nat) (d : Nat) (h : List GO) (e : h[d]? = some (.ins 0 [])) : GI.run T (n + 1) 4 [.ref d] h = .ok .non (h.set d (dko ⟨[], 0, 0⟩)) := by
  rw [run_at T_f4 rfl]
  simp [g4, b4, upo, cont, recont, e, putFld, T_c0, GI.putF, sat e, dko, S_ofs]
theorem r5 (n : Nat) (d : Nat) (D : Dk) (x : List Nat) (h : List GO) (e : h[d]? = some (dko D)) (hx : okc x) (hz : D.t.length + x.length ≤ Big) : GI.run T (n + 2) 5 [.ref d, .str (S x)] h = .ok .non (h.set d (dko (D.did (.put x)))) := by
  rw [run_at T_f5 rfl]
  have hb := bn_strs (x := S D.t) (y := S x) (by simpa using big_line hz)
  simp [g5, b5, c2 hx (Nat.le_trans (Nat.le_add_left _ _) hz), att_t e, hb, put_t e, Dk.did]
theorem r6 (n : Nat) (d : Nat) (D : Dk) (h : List GO) (e : h[d]? = some (dko D)) (hz : D.t.length ≤ Big) : GI.run T (n + 1) 6 [.ref d] h = .ok .non (h.set d (dko (D.did .sync))) := by
  rw [run_at T_f6 rfl]
  simp [g6, b6, att_t e, bi_lens (x := S D.t) (by simpa using big_line hz), put_y e, Dk.did]
theorem gsl_S (l : List Nat) (n : Nat) (hz : l.length ≤ Big) : gsl (.str (S l)) none (some (n : Int)) = some (.g (.str (S (l.take n)))) := by
  refine Eq.trans (if_pos (show (S l).length ≤ sizeLine by simpa using big_line hz)) ?_
  have : L2.cutS (S l) none (some (n : Int)) = S (cutG l none (some (n : Int))) := by
    unfold L2.cutS cutG
    rw [S_len, S_list]; rfl
  rw [this, cut_upto]
theorem r7 (n : Nat) (d : Nat) (D : Dk) (m : Nat) (h : List GO) (e : h[d]? = some (dko D)) (h1 : D.se ≤ m) (h2 : m ≤ D.t.length) (hz : D.t.length ≤ Big) : GI.run T (n + 3) 7 [.ref d, .int m] h = .ok .non (h.set d (dko (D.cut m))) := by
  rw [run_at T_f7 rfl]
  simp [g7, b7, att_t e, att_e e, bi_lens (x := S D.t) (by simpa using big_line hz), c3, h1, h2, gsl_S _ _ hz, put_t e, put_y (sat e), Dk.cut]
theorem c7 {n : Nat} {d : Nat} {D : Dk} {m : Nat} {σ : List Sl} {h : List GO} (e : h[d]? = some (dko D)) (h1 : D.se ≤ m) (h2 : m ≤ D.t.length) (hz : D.t.length ≤ Big) : callF T (GI.run T (n + 3)) 7 [.ref d, .int m] [] [] ⟨σ, h⟩ = .ok (.g .non) ⟨σ, h.set d (dko (D.cut m))⟩ := by
  rw [call_at T_f7 rfl rfl rfl, r7 n d D m h e h1 h2 hz]; rfl
theorem mth {d : Nat} {D : Dk} {h : List GO} (m : String) (e : h[d]? = some (dko D)) (hm : [("text", GV.str (S D.t)), ("synced", .int D.sy), ("settled", .int D.se)].lookup m = none) : methOf T h (.ref d) m = [("put", 5), ("sync", 6), ("trim", 7), ("fall", 8), ("lose", 9), ("settle", 10), ("swap", 11)].lookup m := by
  simp only [methOf, clsOf, e, dko, T_c0, hm]
theorem r8 (n : Nat) (d : Nat) (D : Dk) (k : Nat) (h : List GO) (e : h[d]? = some (dko D)) (hi : D.inv) (hz : D.t.length ≤ Big) : GI.run T (n + 4) 8 [.ref d, .int k] h = .ok .non (h.set d (dko (D.did (.fall k)))) := by
  rw [run_at T_f8 rfl]
  have hb := hi.b
  have ha := hi.a
  obtain ⟨q, hq⟩ : ∃ q : Nat, q = D.t.length - D.sy + 1 := ⟨_, rfl⟩
  have e1 : ((D.t.length : Int) - D.sy + 1) = (q : Int) := by omega
  have hm := bn_mod (i := (k : Int)) (j := (q : Int)) (by omega)
  have e2 : (D.sy : Int) + (k : Int) % (q : Int) = ((D.sy + k % q : Nat) : Int) := by simp
  have hc := c7 (n := n) (σ := [.val (.ref d), .val (.int k)]) (h := h) (m := D.sy + k % q) e (by omega) (by rw [hq]; exact fall_le hb) hz
  simp [g8, b8, att_t e, att_y e, bi_lens (x := S D.t) (by simpa using big_line hz), c1, mth "trim" e rfl, List.lookup, e1, hm]
  rw [e2, hc]
  simp [Dk.did, hq]
theorem r9 (n : Nat) (d : Nat) (D : Dk) (k : Nat) (h : List GO) (e : h[d]? = some (dko D)) (hi : D.inv) (hz : D.t.length ≤ Big) : GI.run T (n + 4) 9 [.ref d, .int k] h = .ok .non (h.set d (dko (D.did (.lose k)))) := by
  rw [run_at T_f9 rfl]
  have hb := hi.b
  have ha := hi.a
  have e2 : max (D.se : Int) (min (k : Int) (D.t.length : Int)) = ((max D.se (min k D.t.length) : Nat) : Int) := by omega
  have hc := c7 (n := n) (σ := [.val (.ref d), .val (.int k)]) (h := h) (m := max D.se (min k D.t.length)) e (by omega) (by omega) hz
  simp [g9, b9, att_t e, att_e e, bi_lens (x := S D.t) (by simpa using big_line hz), c1, mth "trim" e rfl, List.lookup, bi_maxi, bi_mini, e2, hc, Dk.did]
theorem r10 (n : Nat) (d : Nat) (D : Dk) (k : Nat) (h : List GO) (e : h[d]? = some (dko D)) (h1 : D.se ≤ k) (h2 : k ≤ D.sy) : GI.run T (n + 3) 10 [.ref d, .int k] h = .ok .non (h.set d (dko (D.did (.settle k)))) := by
  rw [run_at T_f10 rfl]
  simp [g10, b10, att_y e, att_e e, c3, h1, h2, put_e e, Dk.did]
theorem r11 (n : Nat) (d : Nat) (D : Dk) (x : List Nat) (k : Nat) (h : List GO) (e : h[d]? = some (dko D)) (hx : okc x) (h1 : k ≤ x.length) (hz : x.length ≤ Big) : GI.run T (n + 3) 11 [.ref d, .str (S x), .int k] h = .ok .non (h.set d (dko (D.did (.swap x k)))) := by
  rw [run_at T_f11 rfl]
  simp [g11, b11, bi_lens (x := S x) (by simpa using big_line hz), c2 hx hz, c3, h1, put_t e, put_y (sat e), put_e (sat e), Dk.did, List.set_set]
end K06
set_option Elab.async false
set_option linter.all false
set_option maxRecDepth 100000
set_option maxHeartbeats 4000000
namespace K06
open PySem PySem.Spec PyProof.Rows L2 GI
theorem rd_ref {σ : List Sl} {h : List GO} {a : Nat} {xs : List GV} (e : h[a]? = some (.lst xs)) : GI.rd ⟨σ, h⟩ (.g (.ref a)) = .lst xs := by
  show GI.rdv h (.ref a) = _
  simp [GI.rdv, e, GO.vw]
theorem r12 (n : Nat) (ns : List Int) (k : Nat) (h : List GO) : ∃ z : Int, GI.run T (n + 1) 12 [.scr ns, .int k] h = .ok (.int z) h := by
  rw [run_at T_f12 rfl]
  by_cases hk : k < ns.length
  · refine ⟨ns[k], ?_⟩
    have : (k : Int) < ns.length := by omega
    simp [g12, b12, this, gix_scr, atI_nat ns k hk, hk]
  · refine ⟨6047 * k + (ns.take 1).sum % 1000033, ?_⟩
    have h1 : ¬ (k : Int) < ns.length := by omega
    have e1 : gsl (.scr ns) none (some 1) = some (.new (.lst ((ns.take 1).map .int))) := by
      have := cut_upto ns 1
      show some (EV.new (.lst ((cutG ns none (some 1)).map .int))) = _
      have e : ((1 : Nat) : Int) = 1 := rfl
      rw [← e, this]
    have e2 : intsG (List.take 1 (List.map GV.int ns)) = some (ns.take 1) := by
      have := intsG_map (fun i : Int => i) (ns.take 1)
      rw [← List.map_take]; simpa using this
    have e3 := bn_mod (i := (ns.take 1).sum) (j := 1000033) (by omega)
    have e4 := bn_mul (i := 6047) (j := (k : Int)) (.inl (by omega))
    simp [g12, b12, h1, e1, bi_sums, e2, e3, e4]
structure BoxAt (a B : Nat) (h : List GO) : Prop where
  ex : ∃ (b0 : Int) (b1 : Bool) (b2 b3 : Int), h[a]? = some (.lst [.int b0, .bl b1, .int b2, .int b3]) ∧ 0 ≤ b2 ∧ b2 < 2147483629 ∧ 0 ≤ b3 ∧ b3 ≤ B
theorem r13 (n : Nat) (g : Int) (h : List GO) : ∃ h', GI.run T (n + 1) 13 [.int g] h = .ok (.ref h.length) h' ∧ BoxAt h.length 0 h' ∧ Chg [] h h' := by
  obtain ⟨b, hb⟩ : ∃ b : Int, b = (if g < 0 then -g else g) := ⟨_, rfl⟩
  refine ⟨h ++ [.lst [.int b, .bl (decide (1000000000000000000 ≤ b)), .int (b % 2147483629), .int 0]], ?_, ⟨b, decide (1000000000000000000 ≤ b), b % 2147483629, 0, by simp, by omega, by omega, by omega, by omega⟩, Chg.push⟩
  rw [run_at T_f13 rfl]
  have e1 := bn_pow (i := 10) (j := 18) ⟨by omega, by omega, by decide⟩
  have e2 := bn_mod (i := b) (j := 2147483629) (by omega)
  have hz : 4 ≤ sizeLine := by decide
  simp [g13, b13, e1, ← hb, e2, hz]
theorem set_ref {σ : List Sl} {h : List GO} {a : Nat} {xs : List GV} {i : Int} {j : Nat} {v : GV} (e : h[a]? = some (.lst xs)) (hi : ixN xs.length i = some j) : upo (.g (.ref a)) (putIx (.int i) v) ⟨σ, h⟩ = .ok (.g .non) ⟨σ, h.set a (.lst (xs.set j v))⟩ := by
  simp [upo, cont, recont, e, putIx, hi]
theorem r14 (n a m B : Nat) (h : List GO) (hb : BoxAt a B h) (h1 : 1 ≤ m) (h2 : m < 2 ^ 30) (hB : B ≤ 2 ^ 37) : ∃ (d : Nat) (h' : List GO), GI.run T (n + 1) 14 [.ref a, .int m] h = .ok (.int d) h' ∧ d < m ∧ BoxAt a (B + 1) h' ∧ Chg [a] h h' := by
  obtain ⟨b0, b1, b2, b3, e, p1, p2, p3, p4⟩ := hb.ex
  rw [run_at T_f14 rfl]
  by_cases hc : b1 = true ∧ 0 < b0
  · obtain ⟨rfl, hb0⟩ := hc
    refine ⟨(b0 % m).toNat, h.set a (.lst [.int (b0 / m), .bl true, .int b2, .int b3]), ?_, ?_, ⟨_, _, _, _, sat e, p1, p2, p3, by omega⟩, Chg.set⟩
    · have e1 := bn_mod (i := b0) (j := (m : Int)) (by omega)
      have e2 := bn_div (i := b0) (j := (m : Int)) ⟨by omega, by omega⟩
      have hm : (((b0 % m).toNat : Nat) : Int) = b0 % m := by
        have := Int.emod_nonneg b0 (show (m : Int) ≠ 0 by omega)
        omega
      simp [g14, b14, rd_ref e, gix_lst, hb0, e1, e2, set_ref e (i := 0) (j := 0) rfl, hm]
    · have q1 := Int.emod_nonneg b0 (show (m : Int) ≠ 0 by omega)
      have q2 := Int.emod_lt_of_pos b0 (show (0 : Int) < m by omega)
      omega
  · obtain ⟨y, hy⟩ : ∃ y : Int, y = b2 + 15485959 * (b3 + 1) + 179424787 := ⟨_, rfl⟩
    obtain ⟨x, hx⟩ : ∃ x : Int, x = y ^ 5 % 2147483647 := ⟨_, rfl⟩
    obtain ⟨z, hz⟩ : ∃ z : Int, z = x * 48271 + 104779 * (b3 + 1) := ⟨_, rfl⟩
    obtain ⟨v, hv⟩ : ∃ v : Int, v = z ^ 3 % 2147483587 := ⟨_, rfl⟩
    have x1 : 0 ≤ x := by rw [hx]; exact Int.emod_nonneg _ (by omega)
    have x2 : x < 2147483647 := by rw [hx]; exact Int.emod_lt_of_pos _ (by omega)
    have v1 : 0 ≤ v := by rw [hv]; exact Int.emod_nonneg _ (by omega)
    have q1 := Int.emod_nonneg (v / 64) (show (m : Int) ≠ 0 by omega)
    have q2 := Int.emod_lt_of_pos (v / 64) (show (0 : Int) < m by omega)
    have hm : (((v / 64 % m).toNat : Nat) : Int) = v / 64 % m := by omega
    refine ⟨(v / 64 % m).toNat, h.set a (.lst [.int b0, .bl b1, .int b2, .int (b3 + 1)]), ?_, by omega, ⟨_, _, _, _, sat e, p1, p2, by omega, by omega⟩, Chg.set⟩
    have e1 := bn_mul (i := 15485959) (j := b3 + 1) (.inl (by omega))
    have e2 := bn_pow (i := y) (j := 5) ⟨by omega, by omega, by omega⟩
    have e3 := bn_mod (i := y ^ 5) (j := 2147483647) (by omega)
    have e4 := bn_mul (i := x) (j := 48271) (.inr (by omega))
    have e5 := bn_mul (i := 104779) (j := b3 + 1) (.inl (by omega))
    have e6 := bn_pow (i := z) (j := 3) ⟨by omega, by omega, by omega⟩
    have e7 := bn_mod (i := z ^ 3) (j := 2147483587) (by omega)
    have e8 := bn_div (i := v) (j := 64) ⟨by omega, by omega⟩
    have e9 := bn_mod (i := v / 64) (j := (m : Int)) (by omega)
    have s3 := set_ref (σ := [.val (.ref a), .val (.int m), .no, .no]) e (i := 3) (j := 3) (v := .int (b3 + 1)) rfl
    have e' : (h.set a (.lst [.int b0, .bl b1, .int b2, .int (b3 + 1)]))[a]? = some (.lst [.int b0, .bl b1, .int b2, .int (b3 + 1)]) := sat e
    have ht : ∀ σ : List Sl, tst (evE T (GI.run T n) (.and_ (.ix (.var 0) (.con (.int 1))) (.cmp .Gt (.ix (.var 0) (.con (.int 0))) (.con (.int 0)))) true ⟨.val (.ref a) :: σ, h⟩) = .ok false ⟨.val (.ref a) :: σ, h⟩ := by
      intro σ
      cases b1 with
      | false => simp [rd_ref e, gix_lst]
      | true =>
        have : ¬ 0 < b0 := fun z => hc ⟨rfl, z⟩
        simp [rd_ref e, gix_lst, this]
    simp only [g14, b14, ss_cons', s_ife', List.map_cons, List.map_nil, List.length_cons, List.length_nil, List.replicate, List.cons_append, List.nil_append, ht]
    simp only [bind_ok, Bool.false_eq_true, if_false, ss_nil', nxF_nx, ss_cons']
    simp [rd_ref e, rd_ref e', gix_lst, s3, e1, ← hy, e2, e3, ← hx, e4, e5, ← hz, e6, e7, ← hv, e8, e9, hm]
end K06
set_option Elab.async false
set_option linter.all false
set_option maxRecDepth 100000
set_option maxHeartbeats 4000000
namespace K06
open PySem PySem.Spec PyProof.Rows L2 GI
theorem c14 {n a m B : Nat} {h : List GO} {σ : List Sl} (hb : BoxAt a B h) (h1 : 1 ≤ m) (h2 : m < 2 ^ 30) (hB : B ≤ 2 ^ 37) : ∃ (d : Nat) (h' : List GO), callF T (GI.run T (n + 1)) 14 [.ref a, .int m] [] [] ⟨σ, h⟩ = .ok (.g (.int d)) ⟨σ, h'⟩ ∧ d < m ∧ BoxAt a (B + 1) h' ∧ Chg [a] h h' := by
  obtain ⟨d, h', e, p1, p2, p3⟩ := r14 n a m B h hb h1 h2 hB
  exact ⟨d, h', by rw [call_at T_f14 rfl rfl rfl, e]; rfl, p1, p2, p3⟩
def abc : List Nat := [97, 98, 99, 100, 101, 102, 103, 104, 105, 106, 107, 108, 109, 110, 111, 112, 113, 114, 115, 116, 117, 118, 119, 120, 121, 122, 32, 48, 46, 126]
theorem abc_eq : Str.ofString "abcdefghijklmnopqrstuvwxyz 0.~" = S abc := by decide +kernel
theorem abc_at {d : Nat} (h : d < 30) : ∃ c, gix (.str (S abc)) (.int (d : Int)) = some (.str (S [c])) ∧ 32 ≤ c ∧ c ≤ 126 := by
  have hl : d < abc.length := h
  refine ⟨abc[d], ?_, ?_⟩
  · refine Eq.trans (if_pos (show (S abc).length ≤ sizeLine by decide)) ?_
    show (atI abc (d : Int)).map _ = _
    rw [atI_nat _ _ hl, List.getElem?_eq_getElem hl]; rfl
  · have : ∀ c ∈ abc, 32 ≤ c ∧ c ≤ 126 := by decide
    exact this _ (List.getElem_mem hl)
theorem signs_of {ys : List GV} (h : ∀ y ∈ ys, ∃ c, y = .str (S [c]) ∧ 32 ≤ c ∧ c ≤ 126) : ∃ cs : List Nat, ys = cs.map (fun c => .str (S [c])) ∧ okc cs := by
  induction ys with
  | nil => exact ⟨[], rfl, fun _ z => by cases z⟩
  | cons y r ih =>
    obtain ⟨cs, e, ok⟩ := ih fun z hz => h z (List.mem_cons_of_mem _ hz)
    obtain ⟨c, e1, h1⟩ := h y List.mem_cons_self
    refine ⟨c :: cs, by rw [e, e1]; rfl, fun z hz => ?_⟩
    rcases List.mem_cons.mp hz with rfl | hz
    · exact h1
    · exact ok z hz
theorem jn_sgs (cs : List Nat) (h : cs.length ≤ Big) : bmr .join (.str (Str.ofString "")) [.lst (cs.map fun c => .str (S [c]))] = some (.g (.str (S cs))) := by
  have e : ∀ l : List Nat, (l.map fun x => ([x] : List Nat).length).sum = l.length := by
    intro l
    induction l with
    | nil => rfl
    | cons c r ih => rw [List.map_cons, List.sum_cons, ih, List.length_singleton, List.length_cons]; omega
  have := jn_S (fun c : Nat => [c]) cs (by rw [e]; unfold Big at h; omega)
  rw [this]; simp
theorem r15 (n a m B : Nat) (h : List GO) (hb : BoxAt a B h) (h2 : m ≤ 1000) (hB : B + m ≤ 2 ^ 37) : ∃ (x : List Nat) (h' : List GO), GI.run T (n + 2) 15 [.ref a, .int m] h = .ok (.str (S x)) h' ∧ x.length = m ∧ okc x ∧ BoxAt a (B + m) h' ∧ Chg [a] h h' := by
  obtain ⟨ys, s', e1, l1, p1, i1⟩ := lcL_inv (same := same (.g .non) .non) (step := lcS T (GI.run T (n + 1)) (.ix (.con (.str (Str.ofString "abcdefghijklmnopqrstuvwxyz 0.~"))) (.call 14 (.cons (.var 0) (.cons (.con (.int 30)) .nil)) [] .nil)) (.nm 2) .no [2])
    (fun i s => ∃ h', s = ⟨[.val (.ref a), .val (.int m), .no], h'⟩ ∧ BoxAt a (B + i) h' ∧ Chg [a] h h' ∧ i ≤ m) (fun y => ∃ c, y = .str (S [c]) ∧ 32 ≤ c ∧ c ≤ 126) (xs := (List.range m).map fun k => .int (k : Nat)) (acc := []) (s := ⟨[.val (.ref a), .val (.int m), .no], h⟩) (i := 0)
    ⟨h, rfl, hb, Chg.refl, Nat.zero_le _⟩ (fun i s _ => rfl) (fun j s x hx ⟨h', es, hb', hc, hi⟩ => by
      subst es
      have hj : j < m := by have := (List.getElem?_eq_some_iff.mp hx).1; simpa using this
      rw [Nat.zero_add] at hb' hi
      obtain ⟨d, h2, e2, p1, p2, p3⟩ := c14 (n := n) (m := 30) (σ := [.val (.ref a), .val (.int m), .val x]) hb' (by omega) (by omega) (by omega)
      obtain ⟨c, ec, k1⟩ := abc_at p1
      rw [show ((30 : Nat) : Int) = 30 from rfl] at e2
      refine ⟨.str (S [c]), ⟨[.val (.ref a), .val (.int m), .no], h2⟩, ?_, ⟨c, rfl, k1⟩, h2, rfl, by rw [show B + (0 + j + 1) = B + j + 1 by omega]; exact p2, hc.trans p3, by omega⟩
      rw [abc_eq]
      simp [lcS, e2, ec]) (by simp; exact big_line (by unfold Big; omega))
  obtain ⟨h', es, hb', hc, _⟩ := i1
  obtain ⟨cs, ey, ok⟩ := signs_of p1
  subst ey es
  have hl : cs.length = m := by simpa using l1
  refine ⟨cs, h', ?_, hl, ok, by simpa using hb', hc⟩
  rw [run_at T_f15 rfl]
  have hr := rngF_n (s := ⟨[.val (.ref a), .val (.int m), .no], h⟩) m (by omega)
  have hj := jn_sgs cs (by unfold Big; omega)
  rw [List.nil_append] at e1
  simp [g15, b15, hr, e1, hj]
end K06
set_option Elab.async false
set_option linter.all false
set_option maxRecDepth 100000
set_option maxHeartbeats 4000000
namespace K06
open PySem PySem.Spec PyProof.Rows L2 GI
def pG (p : Nat × Int) : GV := .tup [.str (S [p.1]), .int p.2]
def rG (r : List (Nat × Int)) : GV := .lst (r.map pG)
theorem r16 (n : Nat) (r : List (Nat × Int)) (m : Int) (hz : r.length ≤ Big) (h : List GO) : GI.run T (n + 1) 16 [rG r, .int m] h = .ok (rG (wth r m)) h := by
  rw [run_at T_f16 rfl]
  have hl : lcL (same (.g (rG r)) (rG r)) (lcS T (GI.run T n) (.tup (.cons (.var 2) (.cons (.bi .max (.cons (.var 1) (.cons (.var 3) .nil))) .nil))) (.tp [2, 3]) .no [2, 3]) (r.map pG) [] ⟨[.val (rG r), .val (.int m), .no, .no], h⟩ =
      .ok (r.map fun p => pG (p.1, max m p.2)) ⟨[.val (rG r), .val (.int m), .no, .no], h⟩ := by
    refine lcL_mapL pG (fun p => pG (p.1, max m p.2)) rfl (fun p hp => ?_) (big_line hz)
    have h2 : 2 ≤ sizeLine := by decide
    simp [lcS, pG, bi_maxi, h2]
  have hi : items (rG r) = some (r.map pG) := rfl
  have hr : ∀ s, GI.rd s (.g (rG r)) = rG r := fun _ => rfl
  simp [g16, b16, hr, hi, hl]
  simp [rG, wth, Function.comp_def]
end K06
set_option Elab.async false
set_option linter.all false
set_option maxRecDepth 100000
set_option maxHeartbeats 4000000
namespace K06
open PySem PySem.Spec PyProof.Rows L2 GI
def dG : Deed → GV
  | .put x => .lst [.str (Str.ofString "put"), .str (S x)]
  | .sync => .lst [.str (Str.ofString "sync")]
  | .settle n => .lst [.str (Str.ofString "settle"), .int n]
  | .swap x n => .lst [.str (Str.ofString "swap"), .str (S x), .int n]
  | .trim n => .lst [.str (Str.ofString "trim"), .int n]
  | .lose n => .lst [.str (Str.ofString "lose"), .int n]
  | .fall n => .lst [.str (Str.ofString "fall"), .int n]
theorem rd_rG (s : GS) (r : List (Nat × Int)) : GI.rd s (.g (rG r)) = rG r := rfl
theorem it_rG (r : List (Nat × Int)) : items (rG r) = some (r.map pG) := rfl
theorem c16 {n : Nat} {r : List (Nat × Int)} {m : Int} (hz : r.length ≤ Big) {s : GS} : callF T (GI.run T (n + 1)) 16 [rG r, .int m] [] [] s = .ok (.g (rG (wth r m))) s := by
  rw [call_at T_f16 rfl rfl rfl, r16 n r m hz]; rfl
theorem sz1 : 1 ≤ sizeLine := by decide
theorem sz2 : 2 ≤ sizeLine := by decide
theorem sz3 : 3 ≤ sizeLine := by decide
theorem sz4 : 4 ≤ sizeLine := by decide
theorem ap2 (a b : GV) : binop .Add (.lst [a, b]) (.lst [.int 0]) = some (.new (.lst [a, b, .int 0])) := bn_lsts (x := [a, b]) (y := [.int 0]) sz3
theorem ap1 (a : GV) : binop .Add (.lst [a]) (.lst [.int 0]) = some (.new (.lst [a, .int 0])) := bn_lsts (x := [a]) (y := [.int 0]) sz2
theorem ap3 (a b c : GV) : binop .Add (.lst [a, b, c]) (.lst [.int 0]) = some (.new (.lst [a, b, c, .int 0])) := bn_lsts (x := [a, b, c]) (y := [.int 0]) sz4
theorem r17_put (n : Nat) (r : List (Nat × Int)) (x : List Nat) (hz : r.length + x.length ≤ Big) (h : List GO) : GI.run T (n + 2) 17 [rG r, dG (.put x)] h = .ok (rG (beh r (.put x))) h := by
  rw [run_at T_f17 rfl]
  have hl : ∀ v : GV, lcL (same (.g (.str (S x))) (.str (S x))) (lcS T (GI.run T (n + 1)) (.tup (.cons (.var 6) (.cons (.con (.int 0)) .nil))) (.nm 6) .no [6]) (x.map fun c => .str (S [c])) [] ⟨[.val (rG r), .val v, .val (.str (Str.ofString "put")), .val (.str (S x)), .no, .no, .no, .no, .no], h⟩ =
      .ok (x.map fun c => pG (c, 0)) ⟨[.val (rG r), .val v, .val (.str (Str.ofString "put")), .val (.str (S x)), .no, .no, .no, .no, .no], h⟩ := by
    intro v
    refine lcL_mapL (fun c => .str (S [c])) (fun c => pG (c, 0)) rfl (fun p hp => ?_) (big_line (by omega))
    simp [lcS, pG, sz2]
  have hb := bn_lsts (x := r.map pG) (y := x.map fun c => pG (c, 0)) (by simpa using big_line hz)
  simp [g17, b17, dG, gix_lst, ap2, sz1, sz2, items_S, hl, rd_rG]
  simp [rG, hb, beh, Function.comp_def]
theorem r17_sync (n : Nat) (r : List (Nat × Int)) (hz : r.length ≤ Big) (h : List GO) : GI.run T (n + 2) 17 [rG r, dG .sync] h = .ok (rG (beh r .sync)) h := by
  rw [run_at T_f17 rfl]
  simp [g17, b17, dG, gix_lst, ap1, sz1, sz2, rd_rG, c16 hz, beh]
theorem gsl_rG (r : List (Nat × Int)) (n : Nat) : gsl (rG r) none (some (n : Int)) = some (.new (.lst ((r.take n).map pG))) := by
  show some (EV.new (.lst (cutG (r.map pG) none (some (n : Int))))) = _
  rw [cut_upto, List.map_take]
theorem r17_trim (n : Nat) (r : List (Nat × Int)) (k : Nat) (hz : r.length ≤ Big) (h : List GO) : GI.run T (n + 2) 17 [rG r, dG (.trim k)] h = .ok (rG (beh r (.trim k))) h := by
  rw [run_at T_f17 rfl]
  have hc := c16 (n := n) (r := r.take k) (m := 1) (s := ⟨[.val (rG r), .val (dG (.trim k)), .val (.str (Str.ofString "trim")), .val (.int k), .no, .no, .no, .no, .no], h⟩) (by rw [List.length_take]; omega)
  simp only [dG] at hc
  simp [g17, b17, dG, gix_lst, ap2, sz1, sz2, rd_rG, gsl_rG]
  simp only [rG, List.map_take] at hc ⊢
  rw [hc]
  simp [beh, rG]
theorem range_zip {α β : Type} (x : List α) (f : Nat → β) (g : α × Nat → β) (h : ∀ (k : Nat) (hk : k < x.length), f k = g (x[k], k)) : (List.range x.length).map f = x.zipIdx.map g := by
  apply List.ext_getElem?
  intro i
  rw [List.getElem?_map, List.getElem?_map, List.getElem?_zipIdx]
  by_cases hi : i < x.length
  · rw [List.getElem?_eq_getElem (by simpa using hi), List.getElem?_eq_getElem hi]
    simp [h i hi]
  · rw [List.getElem?_eq_none (by simpa using hi), List.getElem?_eq_none (by omega)]; rfl
theorem range_zipF {α β : Type} (x : List α) (f : Nat → Option β) (g : α × Nat → Option β) (h : ∀ (k : Nat) (hk : k < x.length), f k = g (x[k], k)) : (List.range x.length).filterMap f = x.zipIdx.filterMap g := by
  have e := range_zip x f g h
  have : ∀ {γ : Type} (l : List γ) (u : γ → Option β), l.filterMap u = (l.map u).filterMap id := fun l u => by rw [List.filterMap_map]; rfl
  rw [this, this x.zipIdx, e]
theorem gix_S {x : List Nat} {k : Nat} (h : k < x.length) (hz : x.length ≤ Big) : gix (.str (S x)) (.int (k : Int)) = some (.str (S [x[k]])) := by
  refine Eq.trans (if_pos (show (S x).length ≤ sizeLine by simpa using big_line hz)) ?_
  show (atI x (k : Int)).map _ = _
  rw [atI_nat _ _ h, List.getElem?_eq_getElem h]; rfl
theorem gix_rG {r : List (Nat × Int)} {k : Nat} (h : k < r.length) : gix (rG r) (.int (k : Int)) = some (pG r[k]) := by
  show atI (r.map pG) (k : Int) = _
  rw [atI_nat _ _ (by simpa using h), List.getElem?_map, List.getElem?_eq_getElem h]; rfl
theorem gix_p0 (p : Nat × Int) : gix (pG p) (.int 0) = some (.str (S [p.1])) := by
  unfold pG; rw [gix_tup]; simp
theorem gix_p1 (p : Nat × Int) : gix (pG p) (.int 1) = some (.int p.2) := by
  unfold pG; rw [gix_tup]; simp
theorem rd_pG (s : GS) (p : Nat × Int) : GI.rd s (.g (pG p)) = pG p := rfl
theorem r17_swap (n : Nat) (r : List (Nat × Int)) (x : List Nat) (m : Nat) (hz : x.length ≤ Big) (h : List GO) : GI.run T (n + 2) 17 [rG r, dG (.swap x m)] h = .ok (rG (beh r (.swap x m))) h := by
  rw [run_at T_f17 rfl]
  obtain ⟨s, hs⟩ : ∃ s : GS, s = ⟨[.val (rG r), .val (.lst [.str (Str.ofString "swap"), .str (S x), .int m]), .val (.str (Str.ofString "swap")), .val (.str (S x)), .no, .no, .no, .no, .no], h⟩ := ⟨_, rfl⟩
  have hl : lcL (same (.g .non) .non) (lcS T (GI.run T (n + 1)) (.tup (.cons (.ix (.var 3) (.var 7)) (.cons (.ife (.cmp .Lt (.var 7) (.ix (.var 1) (.con (.int 2)))) (.con (.int 2)) (.con (.int 1))) .nil))) (.nm 7) .no [7]) ((List.range x.length).map fun k => .int (k : Nat)) [] s =
      .ok ((List.range x.length).map fun k => pG ((x[k]?).getD 0, if k < m then 2 else 1)) s := by
    refine lcL_mapL (fun k : Nat => .int (k : Nat)) (fun k => pG ((x[k]?).getD 0, if k < m then 2 else 1)) rfl (fun k hk => ?_) (by simpa using big_line hz)
    have hk' : k < x.length := by simpa using hk
    have e1 := gix_S hk' hz
    have e2 : x[k]? = some x[k] := List.getElem?_eq_getElem hk'
    subst hs
    by_cases hm : k < m
    · simp [lcS, pG, sz2, gix_lst, e1, e2, hm]
    · have : ¬ (k : Int) < m := by omega
      simp [lcS, pG, sz2, gix_lst, e1, e2, hm]
  have hr := rngF_n (s := s) x.length (by unfold Big at hz; omega)
  have e := range_zip x (fun k => pG ((x[k]?).getD 0, if k < m then 2 else 1)) (fun p => pG (p.1, if p.2 < m then 2 else 1)) (fun k hk => by simp [hk])
  rw [e] at hl
  subst hs
  simp [g17, b17, dG, gix_lst, ap3, sz1, sz2, bi_lens (x := S x) (by simpa using big_line hz), hr, hl]
  simp [rG, beh, Function.comp_def]
theorem r17_settle (n : Nat) (r : List (Nat × Int)) (m : Nat) (hz : r.length ≤ Big) (h : List GO) : GI.run T (n + 2) 17 [rG r, dG (.settle m)] h = .ok (rG (beh r (.settle m))) h := by
  rw [run_at T_f17 rfl]
  obtain ⟨s, hs⟩ : ∃ s : GS, s = ⟨[.val (rG r), .val (.lst [.str (Str.ofString "settle"), .int m]), .val (.str (Str.ofString "settle")), .val (.int m), .no, .no, .no, .no, .no], h⟩ := ⟨_, rfl⟩
  have hl : lcL (same (.g .non) .non) (lcS T (GI.run T (n + 1)) (.tup (.cons (.ix (.ix (.var 0) (.var 7)) (.con (.int 0))) (.cons (.ife (.cmp .Lt (.var 7) (.var 3)) (.con (.int 2)) (.ix (.ix (.var 0) (.var 7)) (.con (.int 1)))) .nil))) (.nm 7) .no [7]) ((List.range r.length).map fun k => .int (k : Nat)) [] s =
      .ok ((List.range r.length).map fun k => pG (((r[k]?).getD (0, 0)).1, if k < m then 2 else ((r[k]?).getD (0, 0)).2)) s := by
    refine lcL_mapL (fun k : Nat => .int (k : Nat)) (fun k => pG (((r[k]?).getD (0, 0)).1, if k < m then 2 else ((r[k]?).getD (0, 0)).2)) rfl (fun k hk => ?_) (by simpa using big_line hz)
    have hk' : k < r.length := by simpa using hk
    have e1 := gix_rG hk'
    have e2 : r[k]? = some r[k] := List.getElem?_eq_getElem hk'
    subst hs
    by_cases hm : k < m
    · simp [lcS, rd_rG, rd_pG, e1, e2, hm, gix_p0, gix_p1, sz2]; rfl
    · simp [lcS, rd_rG, rd_pG, e1, e2, hm, gix_p0, gix_p1, sz2]; rfl
  have hr := rngF_n (s := s) r.length (by unfold Big at hz; omega)
  have e := range_zip r (fun k => pG (((r[k]?).getD (0, 0)).1, if k < m then 2 else ((r[k]?).getD (0, 0)).2)) (fun p => pG (p.1.1, if p.2 < m then 2 else p.1.2)) (fun k hk => by simp [hk])
  rw [e] at hl
  subst hs
  have hb : biF .len [rG r] = some (.g (.int r.length)) := by show some (EV.g (.int (r.map pG).length)) = _; rw [List.length_map]
  simp [g17, b17, dG, gix_lst, ap2, sz1, sz2, rd_rG, hb, hr, hl]
  simp [rG, beh, Function.comp_def]
theorem fm_if {α β : Type} (p : α → Bool) (f : α → β) (l : List α) : (l.filterMap fun x => if p x = true then some (f x) else none) = (l.filter p).map f := by
  induction l with
  | nil => rfl
  | cons x r ih =>
    rw [List.filterMap_cons, List.filter_cons, ih]
    cases p x <;> simp
theorem r17_lose (n : Nat) (r : List (Nat × Int)) (m : Nat) (hz : r.length ≤ Big) (h : List GO) : GI.run T (n + 2) 17 [rG r, dG (.lose m)] h = .ok (rG (beh r (.lose m))) h := by
  rw [run_at T_f17 rfl]
  obtain ⟨s, hs⟩ : ∃ s : GS, s = ⟨[.val (rG r), .val (.lst [.str (Str.ofString "lose"), .int m]), .val (.str (Str.ofString "lose")), .val (.int m), .no, .no, .no, .no, .no], h⟩ := ⟨_, rfl⟩
  have hl : lcL (same (.g .non) .non) (lcS T (GI.run T (n + 1)) (.ix (.var 0) (.var 7)) (.nm 7) (.so (.or_ (.cmp .Lt (.var 7) (.var 3)) (.cmp .Eq (.ix (.ix (.var 0) (.var 7)) (.con (.int 1))) (.con (.int 2))))) [7]) ((List.range r.length).map fun k => .int (k : Nat)) [] s =
      .ok ((List.range r.length).filterMap fun k => if (decide (k < m) || ((r[k]?).getD (0, 0)).2 == 2) = true then some (pG ((r[k]?).getD (0, 0))) else none) s := by
    refine lcL_fmL (fun k : Nat => .int (k : Nat)) (fun k => if (decide (k < m) || ((r[k]?).getD (0, 0)).2 == 2) = true then some (pG ((r[k]?).getD (0, 0))) else none) rfl (fun k hk => ?_) (by simpa using big_line hz)
    have hk' : k < r.length := by simpa using hk
    have e1 := gix_rG hk'
    have e2 : r[k]? = some r[k] := List.getElem?_eq_getElem hk'
    subst hs
    by_cases hm : k < m
    · simp [lcS, rd_rG, rd_pG, e1, e2, hm]
    · by_cases h2 : r[k].2 = 2
      · simp [lcS, rd_rG, rd_pG, e1, e2, hm, gix_p1, h2]
      · simp [lcS, rd_rG, rd_pG, e1, e2, hm, gix_p1, h2]
  have hr := rngF_n (s := s) r.length (by unfold Big at hz; omega)
  have e := range_zipF r (fun k => if (decide (k < m) || ((r[k]?).getD (0, 0)).2 == 2) = true then some (pG ((r[k]?).getD (0, 0))) else none) (fun p => if (decide (p.2 < m) || p.1.2 == 2) = true then some (pG p.1) else none) (fun k hk => by simp [hk])
  have e' := fm_if (fun p : (Nat × Int) × Nat => decide (p.2 < m) || p.1.2 == 2) (fun p => pG p.1) r.zipIdx
  have e'' : (r.zipIdx.filter fun p => decide (p.2 < m) || p.1.2 == 2).map (fun p => pG p.1) = ((r.zipIdx.filter fun p => decide (p.2 < m) || p.1.2 == 2).map (·.1)).map pG := by rw [List.map_map]; rfl
  rw [e, e', e''] at hl
  obtain ⟨q, hq⟩ : ∃ q, q = (r.zipIdx.filter fun p => decide (p.2 < m) || p.1.2 == 2).map (·.1) := ⟨_, rfl⟩
  have hqz : q.length ≤ Big := by
    rw [hq, List.length_map]
    refine Nat.le_trans (List.length_filter_le _ _) ?_
    simpa using hz
  rw [← hq] at hl
  have hc := fun s => c16 (n := n) (r := q) (m := 1) hqz (s := s)
  subst hs
  have hb : biF .len [rG r] = some (.g (.int r.length)) := by show some (EV.g (.int (r.map pG).length)) = _; rw [List.length_map]
  have hg : GV.lst (q.map pG) = rG q := rfl
  simp [g17, b17, dG, gix_lst, ap2, sz1, sz2, rd_rG, hb, hr, hl, hg, hc]
  simp [beh, hq]
theorem r17_fall (n : Nat) (r : List (Nat × Int)) (m : Nat) (hz : r.length ≤ Big) (h : List GO) : GI.run T (n + 2) 17 [rG r, dG (.fall m)] h = .ok (rG (beh r (.fall m))) h := by
  rw [run_at T_f17 rfl]
  have hl1 : ∀ s : GS, (∃ t, s = ⟨.val (rG r) :: .val (.lst [.str (Str.ofString "fall"), .int m]) :: .val (.str (Str.ofString "fall")) :: .val (.int m) :: .no :: .no :: .no :: .no :: .no :: t, h⟩) → lcL (same (.g (rG r)) (rG r)) (lcS T (GI.run T (n + 1)) (.var 8) (.nm 8) (.so (.cmp .Gt (.ix (.var 8) (.con (.int 1))) (.con (.int 0)))) [8]) (r.map pG) [] s =
      .ok (r.filterMap fun p => if decide (0 < p.2) = true then some (pG p) else none) s := by
    rintro s ⟨t, rfl⟩
    refine lcL_fmL pG (fun p => if decide (0 < p.2) = true then some (pG p) else none) rfl (fun p hp => ?_) (big_line hz)
    by_cases h2 : 0 < p.2
    · simp [lcS, rd_pG, gix_p1, h2]
    · simp [lcS, rd_pG, gix_p1, h2]
  have hl2 : ∀ (s : GS) (o : GO), (∃ t, s = ⟨.val (rG r) :: .val (.lst [.str (Str.ofString "fall"), .int m]) :: .val (.str (Str.ofString "fall")) :: .val (.int m) :: .own o :: .no :: .no :: .no :: .no :: t, h⟩) → lcL (same (.g (rG r)) (rG r)) (lcS T (GI.run T (n + 1)) (.var 8) (.nm 8) (.so (.cmp .Eq (.ix (.var 8) (.con (.int 1))) (.con (.int 0)))) [8]) (r.map pG) [] s =
      .ok (r.filterMap fun p => if (p.2 == 0) = true then some (pG p) else none) s := by
    rintro s o ⟨t, rfl⟩
    refine lcL_fmL pG (fun p => if (p.2 == 0) = true then some (pG p) else none) rfl (fun p hp => ?_) (big_line hz)
    by_cases h2 : p.2 = 0
    · simp [lcS, rd_pG, gix_p1, h2]
    · simp [lcS, rd_pG, gix_p1, h2]
  simp only [fm_if (fun p : Nat × Int => decide (0 < p.2)) pG r] at hl1
  simp only [fm_if (fun p : Nat × Int => p.2 == 0) pG r] at hl2
  obtain ⟨q1, hq1⟩ : ∃ q1, q1 = r.filter fun p => decide (0 < p.2) := ⟨_, rfl⟩
  obtain ⟨q2, hq2⟩ : ∃ q2, q2 = r.filter fun p => p.2 == 0 := ⟨_, rfl⟩
  rw [← hq1] at hl1
  rw [← hq2] at hl2
  have l1 : q1.length ≤ r.length := by rw [hq1]; exact List.length_filter_le _ _
  have l2 : q2.length ≤ r.length := by rw [hq2]; exact List.length_filter_le _ _
  have l12 : q1.length + q2.length ≤ r.length := by
    rw [hq1, hq2]
    clear hl1 hl2 hz hq1 hq2 l1 l2
    induction r with
    | nil => simp
    | cons p r ih =>
      rw [List.filter_cons, List.filter_cons]
      by_cases a : 0 < p.2
      · have : p.2 ≠ 0 := by omega
        simp [a, this]; (try simp at ih); omega
      · by_cases b : p.2 = 0
        · simp [b]; (try simp at ih); omega
        · simp [a, b]; (try simp at ih); omega
  obtain ⟨k, hk⟩ : ∃ k : Nat, k = m % (q2.length + 1) := ⟨_, rfl⟩
  have e1 := bn_mod (i := (m : Int)) (j := (q2.length : Int) + 1) (by omega)
  have e2 : (m : Int) % ((q2.length : Int) + 1) = (k : Int) := by rw [hk]; simp
  rw [e2] at e1
  have e3 : gsl (.lst (q2.map pG)) none (some (k : Int)) = some (.new (.lst ((q2.take k).map pG))) := gsl_rG q2 k
  have e4 := bn_lsts (x := q1.map pG) (y := (q2.take k).map pG) (by have := big_line hz; simp; omega)
  rw [← List.map_append] at e4
  have hc := fun s => c16 (n := n) (r := q1 ++ q2.take k) (m := 1) (by have := hz; simp; omega) (s := s)
  have hg : ∀ q, GV.lst (List.map pG q) = rG q := fun _ => rfl
  have k1 := hl1 ⟨[.val (rG r), .val (.lst [.str (Str.ofString "fall"), .int m]), .val (.str (Str.ofString "fall")), .val (.int m), .no, .no, .no, .no, .no], h⟩ ⟨[], rfl⟩
  have k2 := hl2 ⟨[.val (rG r), .val (.lst [.str (Str.ofString "fall"), .int m]), .val (.str (Str.ofString "fall")), .val (.int m), .own (.lst (q1.map pG)), .no, .no, .no, .no], h⟩ _ ⟨[], rfl⟩
  simp [g17, b17, dG, gix_lst, ap2, sz1, sz2, rd_rG, it_rG, k1, k2, e1, -List.map_take]
  rw [e3]
  simp [-List.map_take]
  rw [e4]
  simp [hg, hc, -List.map_take, -List.map_append]
  simp [beh, hq1, hq2, hk]
end K06
set_option Elab.async false
set_option linter.all false
set_option maxRecDepth 100000
set_option maxHeartbeats 4000000
namespace K06
open PySem PySem.Spec PyProof.Rows L2 GI
theorem r17 (n : Nat) (D : Dk) (e : Deed) (hi : D.inv) (he : e.ok D) (hz : D.t.length + 1000 ≤ Big) (hx : ∀ x, e = .put x ∨ (∃ k, e = .swap x k) → x.length ≤ 1000) (h : List GO) : GI.run T (n + 2) 17 [rG (row D), dG e] h = .ok (rG (row (D.did e))) h := by
  rw [← beh_row hi he]
  have hl : (row D).length ≤ Big := by rw [row_len]; omega
  cases e with
  | put x => exact r17_put n _ x (by have := hx x (.inl rfl); rw [row_len]; omega) h
  | sync => exact r17_sync n _ hl h
  | settle k => exact r17_settle n _ k hl h
  | swap x k => exact r17_swap n _ x k (by have := hx x (.inr ⟨k, rfl⟩); unfold Big at *; omega) h
  | trim k => exact r17_trim n _ k hl h
  | lose k => exact r17_lose n _ k hl h
  | fall k => exact r17_fall n _ k hl h
/-! ### a deed done -/
theorem c5 {n d : Nat} {D : Dk} {x : List Nat} {σ : List Sl} {h : List GO} (e : h[d]? = some (dko D)) (hx : okc x) (hz : D.t.length + x.length ≤ Big) : callF T (GI.run T (n + 2)) 5 [.ref d, .str (S x)] [] [] ⟨σ, h⟩ = .ok (.g .non) ⟨σ, h.set d (dko (D.did (.put x)))⟩ := by
  rw [call_at T_f5 rfl rfl rfl, r5 n d D x h e hx hz]; rfl
theorem c5k {n d : Nat} {D : Dk} {x : List Nat} {σ : List Sl} {h : List GO} (e : h[d]? = some (dko D)) (hx : okc x) (hz : D.t.length + x.length ≤ Big) : callF T (GI.run T (n + 2)) 5 [.ref d] ["signs"] [.str (S x)] ⟨σ, h⟩ = .ok (.g .non) ⟨σ, h.set d (dko (D.did (.put x)))⟩ := by
  rw [call_at T_f5 rfl rfl rfl, r5 n d D x h e hx hz]; rfl
theorem c6 {n d : Nat} {D : Dk} {σ : List Sl} {h : List GO} (e : h[d]? = some (dko D)) (hz : D.t.length ≤ Big) : callF T (GI.run T (n + 1)) 6 [.ref d] [] [] ⟨σ, h⟩ = .ok (.g .non) ⟨σ, h.set d (dko (D.did .sync))⟩ := by
  rw [call_at T_f6 rfl rfl rfl, r6 n d D h e hz]; rfl
theorem c7k {n : Nat} {d : Nat} {D : Dk} {m : Nat} {σ : List Sl} {h : List GO} (e : h[d]? = some (dko D)) (h1 : D.se ≤ m) (h2 : m ≤ D.t.length) (hz : D.t.length ≤ Big) : callF T (GI.run T (n + 3)) 7 [.ref d] ["many"] [.int m] ⟨σ, h⟩ = .ok (.g .non) ⟨σ, h.set d (dko (D.cut m))⟩ := by
  rw [call_at T_f7 rfl rfl rfl, r7 n d D m h e h1 h2 hz]; rfl
theorem c8 {n d k : Nat} {D : Dk} {σ : List Sl} {h : List GO} (e : h[d]? = some (dko D)) (hi : D.inv) (hz : D.t.length ≤ Big) : callF T (GI.run T (n + 4)) 8 [.ref d, .int k] [] [] ⟨σ, h⟩ = .ok (.g .non) ⟨σ, h.set d (dko (D.did (.fall k)))⟩ := by
  rw [call_at T_f8 rfl rfl rfl, r8 n d D k h e hi hz]; rfl
theorem c8k {n d k : Nat} {D : Dk} {σ : List Sl} {h : List GO} (e : h[d]? = some (dko D)) (hi : D.inv) (hz : D.t.length ≤ Big) : callF T (GI.run T (n + 4)) 8 [.ref d] ["keep"] [.int k] ⟨σ, h⟩ = .ok (.g .non) ⟨σ, h.set d (dko (D.did (.fall k)))⟩ := by
  rw [call_at T_f8 rfl rfl rfl, r8 n d D k h e hi hz]; rfl
theorem c9 {n d k : Nat} {D : Dk} {σ : List Sl} {h : List GO} (e : h[d]? = some (dko D)) (hi : D.inv) (hz : D.t.length ≤ Big) : callF T (GI.run T (n + 4)) 9 [.ref d, .int k] [] [] ⟨σ, h⟩ = .ok (.g .non) ⟨σ, h.set d (dko (D.did (.lose k)))⟩ := by
  rw [call_at T_f9 rfl rfl rfl, r9 n d D k h e hi hz]; rfl
theorem c9k {n d k : Nat} {D : Dk} {σ : List Sl} {h : List GO} (e : h[d]? = some (dko D)) (hi : D.inv) (hz : D.t.length ≤ Big) : callF T (GI.run T (n + 4)) 9 [.ref d] ["many"] [.int k] ⟨σ, h⟩ = .ok (.g .non) ⟨σ, h.set d (dko (D.did (.lose k)))⟩ := by
  rw [call_at T_f9 rfl rfl rfl, r9 n d D k h e hi hz]; rfl
theorem c10 {n d k : Nat} {D : Dk} {σ : List Sl} {h : List GO} (e : h[d]? = some (dko D)) (h1 : D.se ≤ k) (h2 : k ≤ D.sy) : callF T (GI.run T (n + 3)) 10 [.ref d, .int k] [] [] ⟨σ, h⟩ = .ok (.g .non) ⟨σ, h.set d (dko (D.did (.settle k)))⟩ := by
  rw [call_at T_f10 rfl rfl rfl, r10 n d D k h e h1 h2]; rfl
theorem c10k {n d k : Nat} {D : Dk} {σ : List Sl} {h : List GO} (e : h[d]? = some (dko D)) (h1 : D.se ≤ k) (h2 : k ≤ D.sy) : callF T (GI.run T (n + 3)) 10 [.ref d] ["many"] [.int k] ⟨σ, h⟩ = .ok (.g .non) ⟨σ, h.set d (dko (D.did (.settle k)))⟩ := by
  rw [call_at T_f10 rfl rfl rfl, r10 n d D k h e h1 h2]; rfl
theorem c11 {n d k : Nat} {D : Dk} {x : List Nat} {σ : List Sl} {h : List GO} (e : h[d]? = some (dko D)) (hx : okc x) (h1 : k ≤ x.length) (hz : x.length ≤ Big) : callF T (GI.run T (n + 3)) 11 [.ref d, .str (S x), .int k] [] [] ⟨σ, h⟩ = .ok (.g .non) ⟨σ, h.set d (dko (D.did (.swap x k)))⟩ := by
  rw [call_at T_f11 rfl rfl rfl, r11 n d D x k h e hx h1 hz]; rfl
theorem c11k {n d k : Nat} {D : Dk} {x : List Nat} {σ : List Sl} {h : List GO} (e : h[d]? = some (dko D)) (hx : okc x) (h1 : k ≤ x.length) (hz : x.length ≤ Big) : callF T (GI.run T (n + 3)) 11 [.ref d] ["settled", "signs"] [.int k, .str (S x)] ⟨σ, h⟩ = .ok (.g .non) ⟨σ, h.set d (dko (D.did (.swap x k)))⟩ := by
  rw [call_at T_f11 rfl rfl rfl, r11 n d D x k h e hx h1 hz]; rfl
/-- what a history's file may hold -/
structure GoodD (D : Dk) (q : Deed) : Prop where
  i : D.inv
  e : q.ok D
  z : D.t.length + 1000 ≤ Big
  x : ∀ x : List Nat, q = Deed.put x ∨ (∃ k, q = Deed.swap x k) → x.length ≤ 1000
theorem r19 (n d : Nat) (D : Dk) (e : Deed) (t : Nat) (h : List GO) (hd : h[d]? = some (dko D)) (g : GoodD D e) : GI.run T (n + 5) 19 [.ref d, dG e, .int t] h = .ok (.bl true) (h.set d (dko (D.did e))) := by
  rw [run_at T_f19 rfl]
  have hz := g.z
  have hb : Big = 1000000 := rfl
  have ht : t = 0 ∨ ¬ t = 0 := Classical.em _
  cases e with
  | put x =>
    have hx := g.x x (.inl rfl)
    rcases ht with ht | ht
    · simp [g19, b19, dG, gix_lst, ap2, sz1, ht, mth "put" hd rfl, List.lookup, c5 hd g.e (show D.t.length + x.length ≤ Big by omega)]
    · simp [g19, b19, dG, gix_lst, ap2, sz1, ht, mth "put" hd rfl, List.lookup, c5k hd g.e (show D.t.length + x.length ≤ Big by omega)]
  | sync => simp [g19, b19, dG, gix_lst, ap1, sz1, mth "sync" hd rfl, List.lookup, c6 hd (show D.t.length ≤ Big by omega)]
  | settle k =>
    rcases ht with ht | ht
    · simp [g19, b19, dG, gix_lst, ap2, sz1, ht, mth "settle" hd rfl, List.lookup, c10 hd g.e.1 g.e.2]
    · simp [g19, b19, dG, gix_lst, ap2, sz1, ht, mth "settle" hd rfl, List.lookup, c10k hd g.e.1 g.e.2]
  | swap x k =>
    have hx := g.x x (.inr ⟨k, rfl⟩)
    rcases ht with ht | ht
    · simp [g19, b19, dG, gix_lst, ap3, sz1, ht, mth "swap" hd rfl, List.lookup, c11 hd g.e.1 g.e.2 (show x.length ≤ Big by omega)]
    · simp [g19, b19, dG, gix_lst, ap3, sz1, ht, mth "swap" hd rfl, List.lookup, c11k hd g.e.1 g.e.2 (show x.length ≤ Big by omega)]
  | trim k =>
    rcases ht with ht | ht
    · simp [g19, b19, dG, gix_lst, ap2, sz1, ht, mth "trim" hd rfl, List.lookup, c7 hd g.e.1 g.e.2 (show D.t.length ≤ Big by omega), Dk.did]
    · simp [g19, b19, dG, gix_lst, ap2, sz1, ht, mth "trim" hd rfl, List.lookup, c7k hd g.e.1 g.e.2 (show D.t.length ≤ Big by omega), Dk.did]
  | lose k =>
    rcases ht with ht | ht
    · simp [g19, b19, dG, gix_lst, ap2, sz1, ht, mth "lose" hd rfl, List.lookup, c9 hd g.i (show D.t.length ≤ Big by omega)]
    · simp [g19, b19, dG, gix_lst, ap2, sz1, ht, mth "lose" hd rfl, List.lookup, c9k hd g.i (show D.t.length ≤ Big by omega)]
  | fall k =>
    rcases ht with ht | ht
    · simp [g19, b19, dG, gix_lst, ap2, sz1, ht, mth "fall" hd rfl, List.lookup, c8 hd g.i (show D.t.length ≤ Big by omega)]
    · simp [g19, b19, dG, gix_lst, ap2, sz1, ht, mth "fall" hd rfl, List.lookup, c8k hd g.i (show D.t.length ≤ Big by omega)]
end K06
set_option Elab.async false
set_option linter.all false
set_option maxRecDepth 100000
set_option maxHeartbeats 4000000
namespace K06
open PySem PySem.Spec PyProof.Rows L2 GI
def toldD (D : Dk) : PyData := .list [.str (S D.t), .int D.sy, .int D.se]
def toldG (D : Dk) : GV := .lst [.str (S D.t), .int D.sy, .int D.se]
theorem told_pd (D : Dk) : (toldG D).pd = some (toldD D) := rfl
theorem told_sh {D : Dk} (hi : D.inv) : SeqAt.shaped (toldD D) = true := by
  unfold SeqAt.shaped toldD
  have := strOk_S (l := D.t) (fun c hc => by have := (hi.c c hc).2; omega)
  simp [PyData.canLay0, PyData.canLayAll0, this, PyData.depth, PyData.depthAll]
theorem told_eq {D : Dk} (hi : D.inv) : geq (toldG D) (toldG D) = some true := by
  unfold geq
  rw [told_pd]
  simp only [told_sh hi, Bool.and_self, if_true]
  simp [toldD, PyData.eqv, PyData.eqvAll]
theorem told_rep {D : Dk} (hi : D.inv) (hz : D.t.length ≤ Big) : biF .repr [toldG D] = some (.g (.str (toldD D).shown)) := by
  have h1 := hi.a
  have h2 := hi.b
  have hb : Big = 1000000 := rfl
  have e1 := shown13 (i := (D.sy : Int)) (by omega)
  have e2 := shown13 (i := (D.se : Int)) (by omega)
  have l1 := log13 (i := (D.sy : Int)) (by omega)
  have l2 := log13 (i := (D.se : Int)) (by omega)
  refine bi_reprs (told_pd D) ?_ ?_ ?_ ?_
  · simp [toldD, PyData.showable, PyData.showableAll]
    exact ⟨by simpa using l1, by simpa using l2⟩
  · simp [toldD, PyData.leavesShort, PyData.leavesShortAll, e1, e2]
    intro c hc
    have := (hi.c c hc).2
    omega
  · simp [toldD, PyData.bulk, PyData.bulkAll]
    have : (S D.t).cps.size = D.t.length := S_len D.t
    omega
  · simp [toldD, PyData.depth, PyData.depthAll]
theorem r20 (n d : Nat) (D : Dk) (h : List GO) (hd : h[d]? = some (dko D)) (hi : D.inv) (hz : D.t.length ≤ Big) : GI.run T (n + 1) 20 [.ref d, rG (row D)] h = .ok (.bl true) h := by
  rw [run_at T_f20 rfl]
  have hl : (row D).length ≤ sizeLine := by rw [row_len]; exact big_line hz
  have k1 : ∀ s : GS, (∃ a b c t, s = ⟨a :: b :: c :: .no :: .no :: .no :: .no :: t, h⟩) → lcL (same (.g (rG (row D))) (rG (row D))) (lcS T (GI.run T n) (.var 4) (.tp [4, 5]) .no [4, 5]) ((row D).map pG) [] s = .ok ((row D).map fun p => .str (S [p.1])) s := by
    rintro s ⟨a, b, c, t, rfl⟩
    refine lcL_mapL pG (fun p => .str (S [p.1])) rfl (fun p hp => ?_) hl
    simp [lcS, pG]
  have k2 : ∀ s : GS, (∃ a b c t, s = ⟨a :: b :: c :: .no :: .no :: .no :: .no :: t, h⟩) → lcL (same (.g (rG (row D))) (rG (row D))) (lcS T (GI.run T n) (.con (.int 1)) (.nm 6) (.so (.cmp .Gt (.ix (.var 6) (.con (.int 1))) (.con (.int 0)))) [6]) ((row D).map pG) [] s =
      .ok ((row D).filterMap fun p => if decide (0 < p.2) = true then some (.int 1) else none) s := by
    rintro s ⟨a, b, c, t, rfl⟩
    refine lcL_fmL pG (fun p => if decide (0 < p.2) = true then some (.int 1) else none) rfl (fun p hp => ?_) hl
    by_cases h2 : 0 < p.2
    · simp [lcS, rd_pG, gix_p1, h2]
    · simp [lcS, rd_pG, gix_p1, h2]
  have k3 : ∀ s : GS, (∃ a b c t, s = ⟨a :: b :: c :: .no :: .no :: .no :: .no :: t, h⟩) → lcL (same (.g (rG (row D))) (rG (row D))) (lcS T (GI.run T n) (.con (.int 1)) (.nm 6) (.so (.cmp .Eq (.ix (.var 6) (.con (.int 1))) (.con (.int 2)))) [6]) ((row D).map pG) [] s =
      .ok ((row D).filterMap fun p => if (p.2 == 2) = true then some (.int 1) else none) s := by
    rintro s ⟨a, b, c, t, rfl⟩
    refine lcL_fmL pG (fun p => if (p.2 == 2) = true then some (.int 1) else none) rfl (fun p hp => ?_) hl
    by_cases h2 : p.2 = 2
    · simp [lcS, rd_pG, gix_p1, h2]
    · simp [lcS, rd_pG, gix_p1, h2]
  simp only [fm_if (fun p : Nat × Int => decide (0 < p.2)) (fun _ => GV.int 1) (row D)] at k2
  simp only [fm_if (fun p : Nat × Int => p.2 == 2) (fun _ => GV.int 1) (row D)] at k3
  have n2 : (((row D).filter fun p => decide (0 < p.2)).map fun _ => GV.int 1).length = D.sy := by rw [List.length_map, cnt_pos hi]
  have n3 : (((row D).filter fun p => p.2 == 2).map fun _ => GV.int 1).length = D.se := by rw [List.length_map, cnt_two hi]
  have e1 : ((row D).map fun p => GV.str (S [p.1])) = D.t.map fun c => .str (S [c]) := by
    conv => rhs; rw [← row_txt D]
    rw [List.map_map]; rfl
  rw [e1] at k1
  obtain ⟨q2, h2⟩ : ∃ q, q = ((row D).filter fun p => decide (0 < p.2)).map fun _ => GV.int 1 := ⟨_, rfl⟩
  obtain ⟨q3, h3⟩ : ∃ q, q = ((row D).filter fun p => p.2 == 2).map fun _ => GV.int 1 := ⟨_, rfl⟩
  rw [← h2] at k2 n2
  rw [← h3] at k3 n3
  have hj := jn_sgs D.t hz
  have y1 := k1 ⟨[.val (.ref d), .val (rG (row D)), .own (.lst [.str (S D.t), .int D.sy, .int D.se]), .no, .no, .no, .no], h⟩ ⟨_, _, _, [], rfl⟩
  have y2 := k2 ⟨[.val (.ref d), .val (rG (row D)), .own (.lst [.str (S D.t), .int D.sy, .int D.se]), .no, .no, .no, .no], h⟩ ⟨_, _, _, [], rfl⟩
  have y3 := k3 ⟨[.val (.ref d), .val (rG (row D)), .own (.lst [.str (S D.t), .int D.sy, .int D.se]), .no, .no, .no, .no], h⟩ ⟨_, _, _, [], rfl⟩
  have z1 := (eq_lsts (xs := [.str (S D.t), .int D.sy, .int D.se]) (ys := [.str (S D.t), .int D.sy, .int D.se]) rfl).trans (told_eq hi)
  have z2 := told_rep hi hz
  unfold toldG at z2
  simp [g20, b20, att_t hd, att_y hd, att_e hd, sz3, rd_rG, it_rG, y1, y2, y3, hj, n2, n3, z1, z2]
end K06
set_option Elab.async false
set_option linter.all false
set_option maxRecDepth 100000
set_option maxHeartbeats 4000000
namespace K06
open PySem PySem.Spec PyProof.Rows L2 GI
theorem pds_ints (l : List Int) : GV.pds (l.map .int) = some (l.map .int) := by
  induction l with
  | nil => rfl
  | cons i r ih =>
    show (match GV.pd (.int i), GV.pds (r.map .int) with
    | some d, some ds => some (d :: ds)
    | _, _ => none) = _
    rw [ih]; rfl
theorem sh_ints (l : List Int) : SeqAt.shaped (.list (l.map .int)) = true := by
  have h1 : ∀ l : List Int, PyData.canLayAll0 (l.map .int) = true := by
    intro l
    induction l with
    | nil => simp [PyData.canLayAll0]
    | cons i r ih => simp [PyData.canLayAll0, PyData.canLay0]; simpa using ih
  have h2 : ∀ l : List Int, PyData.depthAll (l.map .int) = 0 := by
    intro l
    induction l with
    | nil => simp [PyData.depthAll]
    | cons i r ih => simp [PyData.depthAll, PyData.depth]; simpa using ih
  unfold SeqAt.shaped
  simp [PyData.canLay0, PyData.depth, h1, h2]
theorem in_ints (k : Int) (l : List Int) : cmpop .In (.int k) (.lst (l.map .int)) = some (l.any (· == k)) := by
  show gin (.int k) (l.map .int) = _
  unfold gin
  rw [pds_ints]
  show (if (SeqAt.shaped (.int k) && SeqAt.shaped (.list (l.map .int))) = true then some ((l.map PyData.int).any fun z => PyData.eqv z (.int k)) else none) = _
  have h0 : SeqAt.shaped (.int k) = true := rfl
  rw [sh_ints, h0, Bool.and_self, if_pos rfl]
  congr 1
  rw [List.any_map]
  congr 1
theorem in2 (k : Nat) (a b : Nat) : cmpop .In (.int k) (.lst [.int a, .int b]) = some (decide (k = a ∨ k = b)) := by
  have := in_ints k [(a : Int), (b : Int)]
  rw [show ([(a : Int), (b : Int)].map GV.int) = [.int a, .int b] from rfl] at this
  rw [this]
  congr 1
  rw [Bool.eq_iff_iff]
  simp
  omega
theorem in6 (k : Nat) : cmpop .In (.int k) (.lst [.int 0, .int 1, .int 2, .int 3, .int 8, .int 9]) = some (decide (k < 4 ∨ k = 8 ∨ k = 9)) := by
  have := in_ints k [0, 1, 2, 3, 8, 9]
  rw [show ([(0 : Int), 1, 2, 3, 8, 9].map GV.int) = [.int 0, .int 1, .int 2, .int 3, .int 8, .int 9] from rfl] at this
  rw [this]
  congr 1
  rw [Bool.eq_iff_iff]
  simp
  omega
theorem sz6 : 6 ≤ sizeLine := by decide
theorem len_rG (r : List (Nat × Int)) : biF .len [rG r] = some (.g (.int r.length)) := by show some (EV.g (.int (r.map pG).length)) = _; rw [List.length_map]
theorem c15 {n a m B : Nat} {h : List GO} {σ : List Sl} (hb : BoxAt a B h) (h2 : m ≤ 1000) (hB : B + m ≤ 2 ^ 37) : ∃ (x : List Nat) (h' : List GO), callF T (GI.run T (n + 2)) 15 [.ref a, .int m] [] [] ⟨σ, h⟩ = .ok (.g (.str (S x))) ⟨σ, h'⟩ ∧ x.length = m ∧ okc x ∧ BoxAt a (B + m) h' ∧ Chg [a] h h' := by
  obtain ⟨x, h', e, p1, p2, p3, p4⟩ := r15 n a m B h hb h2 hB
  exact ⟨x, h', by rw [call_at T_f15 rfl rfl rfl, e]; rfl, p1, p2, p3, p4⟩
theorem BoxAt.up {a B B' : Nat} {h : List GO} (b : BoxAt a B h) (l : B ≤ B') : BoxAt a B' h := by
  obtain ⟨b0, b1, b2, b3, e, p1, p2, p3, p4⟩ := b.ex
  exact ⟨b0, b1, b2, b3, e, p1, p2, p3, by omega⟩
/-- what a drawn deed is -/
structure Drawn (a B : Nat) (D : Dk) (h : List GO) (e : Deed) (h' : List GO) : Prop where
  ok : e.ok D
  z : (D.did e).t.length ≤ 28
  x : ∀ x : List Nat, e = Deed.put x ∨ (∃ k, e = Deed.swap x k) → x.length ≤ 1000
  b : BoxAt a (B + 30) h'
  c : Chg [a] h h'
theorem cut_len {D : Dk} {n : Nat} (h : D.t.length ≤ 28) : (D.cut n).t.length ≤ 28 := by
  show (D.t.take n).length ≤ 28
  rw [List.length_take]; omega
theorem r18 (n a B : Nat) (D : Dk) (h : List GO) (hb : BoxAt a B h) (hi : D.inv) (hz : D.t.length ≤ 28) (hB : B + 30 ≤ 2 ^ 37) : ∃ (e : Deed) (h' : List GO), GI.run T (n + 3) 18 [.ref a, rG (row D)] h = .ok (dG e) h' ∧ Drawn a B D h e h' := by
  rw [run_at T_f18 rfl]
  have ha := hi.a
  have hbb := hi.b
  have hl : (row D).length ≤ sizeLine := by rw [row_len]; exact big_line (by unfold Big; omega)
  have k2 : ∀ s : GS, (∃ σ h, s = ⟨σ, h⟩ ∧ 7 < σ.length ∧ σ[7]? = some .no) → lcL (same (.g (rG (row D))) (rG (row D))) (lcS T (GI.run T (n + 2)) (.con (.int 1)) (.nm 7) (.so (.cmp .Gt (.ix (.var 7) (.con (.int 1))) (.con (.int 0)))) [7]) ((row D).map pG) [] s =
      .ok ((row D).filterMap fun p => if decide (0 < p.2) = true then some (.int 1) else none) s := by
    rintro s ⟨σ, h, rfl, l7, e7⟩
    have back : (σ.set 7 .no) = σ := by
      apply List.ext_getElem?
      intro i
      by_cases q : i = 7
      · subst q; rw [List.getElem?_set_self l7, e7]
      · rw [List.getElem?_set_ne (Ne.symm q)]
    refine lcL_fmL pG (fun p => if decide (0 < p.2) = true then some (.int 1) else none) rfl (fun p hp => ?_) hl
    by_cases h2 : 0 < p.2
    · simp [lcS, rd_pG, gix_p1, h2, l7, back]
    · simp [lcS, rd_pG, gix_p1, h2, l7, back]
  have k3 : ∀ s : GS, (∃ σ h, s = ⟨σ, h⟩ ∧ 7 < σ.length ∧ σ[7]? = some .no) → lcL (same (.g (rG (row D))) (rG (row D))) (lcS T (GI.run T (n + 2)) (.con (.int 1)) (.nm 7) (.so (.cmp .Eq (.ix (.var 7) (.con (.int 1))) (.con (.int 2)))) [7]) ((row D).map pG) [] s =
      .ok ((row D).filterMap fun p => if (p.2 == 2) = true then some (.int 1) else none) s := by
    rintro s ⟨σ, h, rfl, l7, e7⟩
    have back : (σ.set 7 .no) = σ := by
      apply List.ext_getElem?
      intro i
      by_cases q : i = 7
      · subst q; rw [List.getElem?_set_self l7, e7]
      · rw [List.getElem?_set_ne (Ne.symm q)]
    refine lcL_fmL pG (fun p => if (p.2 == 2) = true then some (.int 1) else none) rfl (fun p hp => ?_) hl
    by_cases h2 : p.2 = 2
    · simp [lcS, rd_pG, gix_p1, h2, l7, back]
    · simp [lcS, rd_pG, gix_p1, h2, l7, back]
  simp only [fm_if (fun p : Nat × Int => decide (0 < p.2)) (fun _ => GV.int 1) (row D)] at k2
  simp only [fm_if (fun p : Nat × Int => p.2 == 2) (fun _ => GV.int 1) (row D)] at k3
  have n2 : (((row D).filter fun p => decide (0 < p.2)).map fun _ => GV.int 1).length = D.sy := by rw [List.length_map, cnt_pos hi]
  have n3 : (((row D).filter fun p => p.2 == 2).map fun _ => GV.int 1).length = D.se := by rw [List.length_map, cnt_two hi]
  obtain ⟨q2, h2⟩ : ∃ q, q = ((row D).filter fun p => decide (0 < p.2)).map fun _ => GV.int 1 := ⟨_, rfl⟩
  obtain ⟨q3, h3⟩ : ∃ q, q = ((row D).filter fun p => p.2 == 2).map fun _ => GV.int 1 := ⟨_, rfl⟩
  rw [← h2] at k2 n2
  rw [← h3] at k3 n3
  obtain ⟨k, g1, e1, p1, b1, t1⟩ := c14 (n := n + 1) (m := 12) (σ := [.val (.ref a), .val (rG (row D)), .no, .no, .no, .no, .no, .no]) hb (by omega) (by omega) (by omega)
  rw [show ((12 : Nat) : Int) = 12 from rfl] at e1
  have y2 := k2 ⟨[.val (.ref a), .val (rG (row D)), .val (.int k), .val (.int D.t.length), .no, .no, .no, .no], g1⟩ ⟨_, _, rfl, by simp, rfl⟩
  have y3 := k3 ⟨[.val (.ref a), .val (rG (row D)), .val (.int k), .val (.int D.t.length), .no, .no, .no, .no], g1⟩ ⟨_, _, rfl, by simp, rfl⟩
  -- the state behind the counts
  have pre : evSs T (GI.run T (n + 2)) g18.body ⟨[GV.ref a, rG (row D)].map .val ++ List.replicate (g18.slots - [GV.ref a, rG (row D)].length) .no, h⟩ = evSs T (GI.run T (n + 2)) (match b18 with
    | .cons _ (.cons _ r) => r
    | r => r) ⟨[.val (.ref a), .val (rG (row D)), .val (.int k), .val (.int D.t.length), .val (.int D.sy), .val (.int D.se), .no, .no], g1⟩ := by
    simp only [b18]
    simp only [g18, b18, ss_cons', List.map_cons, List.map_nil, List.length_cons, List.length_nil, List.replicate, List.cons_append, List.nil_append]
    simp [e1, len_rG, rd_rG, it_rG, row_len, y2, y3, n2, n3]
  rw [pre]
  have b1' : BoxAt a (B + 1) g1 := b1
  have i45 : cmpop .In (.int (k : Int)) (.lst [.int 4, .int 5]) = some (decide (k = 4 ∨ k = 5)) := in2 k 4 5
  have i67 : cmpop .In (.int (k : Int)) (.lst [.int 6, .int 7]) = some (decide (k = 6 ∨ k = 7)) := in2 k 6 7
  have i09 := in6 k
  have sz6 := sz6
  by_cases q1 : k < 4 ∧ D.t.length < 24
  · obtain ⟨m1, g2, e2, p2, b2, t2⟩ := c14 (n := n + 1) (m := 6) (σ := [.val (.ref a), .val (rG (row D)), .val (.int k), .val (.int D.t.length), .val (.int D.sy), .val (.int D.se), .no, .no]) b1 (by omega) (by omega) (by omega)
    rw [show ((6 : Nat) : Int) = 6 from rfl] at e2
    obtain ⟨x, g3, e3, lx, ox, b3, t3⟩ := c15 (n := n) (m := m1) (σ := [.val (.ref a), .val (rG (row D)), .val (.int k), .val (.int D.t.length), .val (.int D.sy), .val (.int D.se), .no, .no]) b2 (by omega) (by omega)
    refine ⟨.put x, g3, ?_, ⟨ox, ?_, ?_, b3.up (by omega), (t1.trans t2).trans t3⟩⟩
    · have h1 : (k : Int) < 4 := by omega
      have h2 : (D.t.length : Int) < 24 := by omega
      simp [b18, h1, h2, e2, e3, sz2, dG]
    · show (D.t ++ x).length ≤ 28
      rw [List.length_append]; omega
    · rintro y (e | ⟨_, e⟩) <;> cases e
      omega
  have h1 : ∀ s : GS, s.σ = [.val (.ref a), .val (rG (row D)), .val (.int k), .val (.int D.t.length), .val (.int D.sy), .val (.int D.se), .no, .no] → tst (evE T (GI.run T (n + 2)) (.and_ (.cmp .Lt (.var 2) (.con (.int 4))) (.cmp .Lt (.var 3) (.con (.int 24)))) true s) = .ok false s := by
    rintro ⟨σ, h⟩ rfl
    by_cases z : k < 4
    · have z1 : (k : Int) < 4 := by omega
      have z2 : ¬ (D.t.length : Int) < 24 := by omega
      simp [z1, z2]
    · have z1 : ¬ (k : Int) < 4 := by omega
      simp [z1]
  simp only [b18, ss_cons', s_ife', h1 ⟨[.val (.ref a), .val (rG (row D)), .val (.int k), .val (.int D.t.length), .val (.int D.sy), .val (.int D.se), .no, .no], g1⟩ rfl]
  simp only [bind_ok, Bool.false_eq_true, if_false, ss_nil', nxF_nx]
  by_cases q2 : k = 4 ∨ k = 5
  · refine ⟨.sync, g1, ?_, ⟨True.intro, hz, ?_, b1'.up (by omega), t1⟩⟩
    · simp [sz1, sz2, i45, q2, dG]
    · rintro y (e | ⟨_, e⟩) <;> cases e
  by_cases q3 : k = 6 ∨ k = 7
  · obtain ⟨m1, g2, e2, p2, b2, t2⟩ := c14 (n := n + 1) (m := D.sy - D.se + 1) (σ := [.val (.ref a), .val (rG (row D)), .val (.int k), .val (.int D.t.length), .val (.int D.sy), .val (.int D.se), .no, .no]) b1 (by omega) (by omega) (by omega)
    rw [show ((D.sy - D.se + 1 : Nat) : Int) = (D.sy : Int) - D.se + 1 by omega] at e2
    refine ⟨.settle (D.se + m1), g2, ?_, ⟨⟨by omega, by omega⟩, hz, ?_, b2.up (by omega), t1.trans t2⟩⟩
    · simp [sz1, sz2, i45, q2, i67, q3, e2, dG]
    · rintro y (e | ⟨_, e⟩) <;> cases e
  by_cases q4 : k < 4 ∨ k = 8 ∨ k = 9
  · obtain ⟨m1, g2, e2, p2, b2, t2⟩ := c14 (n := n + 1) (m := 10) (σ := [.val (.ref a), .val (rG (row D)), .val (.int k), .val (.int D.t.length), .val (.int D.sy), .val (.int D.se), .no, .no]) b1 (by omega) (by omega) (by omega)
    rw [show ((10 : Nat) : Int) = 10 from rfl] at e2
    obtain ⟨x, g3, e3, lx, ox, b3, t3⟩ := c15 (n := n) (m := m1) (σ := [.val (.ref a), .val (rG (row D)), .val (.int k), .val (.int D.t.length), .val (.int D.sy), .val (.int D.se), .no, .no]) b2 (by omega) (by omega)
    obtain ⟨m2, g4, e4, p4, b4, t4⟩ := c14 (n := n + 1) (m := x.length + 1) (σ := [.val (.ref a), .val (rG (row D)), .val (.int k), .val (.int D.t.length), .val (.int D.sy), .val (.int D.se), .val (.str (S x)), .no]) b3 (by omega) (by omega) (by omega)
    rw [show ((x.length + 1 : Nat) : Int) = (x.length : Int) + 1 by omega] at e4
    have el := bi_lens (x := S x) (by simpa using big_line (by unfold Big; omega))
    rw [S_len] at el
    refine ⟨.swap x m2, g4, ?_, ⟨⟨ox, by omega⟩, ?_, ?_, b4.up (by omega), ((t1.trans t2).trans t3).trans t4⟩⟩
    · simp [sz1, sz2, sz3, sz6, i45, q2, i67, q3, i09, q4, e2, e3, el, e4, dG]
    · show x.length ≤ 28
      omega
    · rintro y (e | ⟨_, e⟩) <;> cases e
      omega
  by_cases q5 : k = 10
  · obtain ⟨m1, g2, e2, p2, b2, t2⟩ := c14 (n := n + 1) (m := D.t.length - D.se + 1) (σ := [.val (.ref a), .val (rG (row D)), .val (.int k), .val (.int D.t.length), .val (.int D.sy), .val (.int D.se), .no, .no]) b1 (by omega) (by omega) (by omega)
    rw [show ((D.t.length - D.se + 1 : Nat) : Int) = (D.t.length : Int) - D.se + 1 by omega] at e2
    have h10 : (k : Int) = 10 := by omega
    refine ⟨.trim (D.se + m1), g2, ?_, ⟨⟨by omega, by omega⟩, cut_len hz, ?_, b2.up (by omega), t1.trans t2⟩⟩
    · rw [h10] at i45 i67 i09 e2 ⊢
      simp [sz1, sz2, sz6, i45, q2, i67, q3, i09, q4, e2, dG]
    · rintro y (e | ⟨_, e⟩) <;> cases e
  obtain ⟨m1, g2, e2, p2, b2, t2⟩ := c14 (n := n + 1) (m := 2) (σ := [.val (.ref a), .val (rG (row D)), .val (.int k), .val (.int D.t.length), .val (.int D.sy), .val (.int D.se), .no, .no]) b1 (by omega) (by omega) (by omega)
  obtain ⟨m2, g3, e3, p3, b3, t3⟩ := c14 (n := n + 1) (m := D.t.length + 3) (σ := [.val (.ref a), .val (rG (row D)), .val (.int k), .val (.int D.t.length), .val (.int D.sy), .val (.int D.se), .no, .no]) b2 (by omega) (by omega) (by omega)
  rw [show ((2 : Nat) : Int) = 2 from rfl] at e2
  rw [show ((D.t.length + 3 : Nat) : Int) = (D.t.length : Int) + 3 by omega] at e3
  have h10 : ¬ (k : Int) = 10 := by omega
  have hm : m1 = 0 ∨ m1 = 1 := by omega
  rcases hm with rfl | rfl
  · refine ⟨.lose m2, g3, ?_, ⟨True.intro, cut_len hz, ?_, b3.up (by omega), (t1.trans t2).trans t3⟩⟩
    · simp [sz1, sz2, sz6, i45, q2, i67, q3, i09, q4, h10, e2, e3, gix_lst, dG]
    · rintro y (e | ⟨_, e⟩) <;> cases e
  · refine ⟨.fall m2, g3, ?_, ⟨True.intro, cut_len hz, ?_, b3.up (by omega), (t1.trans t2).trans t3⟩⟩
    · simp [sz1, sz2, sz6, i45, q2, i67, q3, i09, q4, h10, e2, e3, gix_lst, dG]
    · rintro y (e | ⟨_, e⟩) <;> cases e
end K06
set_option Elab.async false
set_option linter.all false
set_option maxRecDepth 100000
set_option maxHeartbeats 4000000
namespace K06
open PySem PySem.Spec PyProof.Rows L2 GI
theorem c17 {n : Nat} {D : Dk} {e : Deed} (g : GoodD D e) {s : GS} : callF T (GI.run T (n + 2)) 17 [rG (row D), dG e] [] [] s = .ok (.g (rG (row (D.did e)))) s := by
  rw [call_at T_f17 rfl rfl rfl, r17 n D e g.i g.e g.z g.x]; rfl
theorem c19 {n d t : Nat} {D : Dk} {e : Deed} (g : GoodD D e) {σ : List Sl} {h : List GO} (hd : h[d]? = some (dko D)) : callF T (GI.run T (n + 5)) 19 [.ref d, dG e, .int t] [] [] ⟨σ, h⟩ = .ok (.g (.bl true)) ⟨σ, h.set d (dko (D.did e))⟩ := by
  rw [call_at T_f19 rfl rfl rfl, r19 n d D e t h hd g]; rfl
theorem c20 {n d : Nat} {D : Dk} (hi : D.inv) (hz : D.t.length ≤ Big) {σ : List Sl} {h : List GO} (hd : h[d]? = some (dko D)) : callF T (GI.run T (n + 1)) 20 [.ref d, rG (row D)] [] [] ⟨σ, h⟩ = .ok (.g (.bl true)) ⟨σ, h⟩ := by
  rw [call_at T_f20 rfl rfl rfl, r20 n d D h hd hi hz]; rfl
theorem mk0 {n : Nat} {σ : List Sl} {h : List GO} : makeF T (GI.run T (n + 1)) 0 [] [] [] ⟨σ, h⟩ = .ok (.g (.ref h.length)) ⟨σ, h ++ [dko ⟨[], 0, 0⟩]⟩ := by
  have e : (h ++ [GO.ins 0 []])[h.length]? = some (.ins 0 []) := by simp
  have r := r4 n h.length (h ++ [.ins 0 []]) e
  have e2 : (h ++ [GO.ins 0 []]).set h.length (dko ⟨[], 0, 0⟩) = h ++ [dko ⟨[], 0, 0⟩] := by
    rw [List.set_append_right _ _ (Nat.le_refl _), Nat.sub_self]; rfl
  rw [e2] at r
  have ha : T.args 4 [.ref h.length] [] [] = some [.ref h.length] := rfl
  unfold makeF
  rw [T_c0]
  simp only
  rw [ha]
  simp only
  rw [r]
  rfl
theorem set_same {h : List GO} {d : Nat} {o : GO} (e : h[d]? = some o) : h.set d o = h := by
  apply List.ext_getElem?
  intro i
  by_cases q : i = d
  · subst q; rw [set_at e, e]
  · rw [List.getElem?_set_ne (Ne.symm q)]
inductive GoodL : Dk → List Deed → Prop
  | nil {D} : GoodL D []
  | cons {D e es} : GoodD D e → GoodL (D.did e) es → GoodL D (e :: es)
def endD (D : Dk) (ds : List Deed) : Dk := ds.foldl Dk.did D
theorem GoodL.inv {D : Dk} {ds : List Deed} (h : GoodL D ds) (hi : D.inv) : (endD D ds).inv := by
  induction h with
  | nil => exact hi
  | cons g _ ih => exact ih (did_inv g.i g.e)
def HoldsRow (D : Dk) (x : Sl) : Prop := x = .own (.lst ((row D).map pG)) ∨ x = .val (rG (row D))
theorem loop21 (n d t : Nat) (L : List GV) : ∀ (ds : List Deed) (D : Dk) (h : List GO) (x y : Sl), GoodL D ds → h[d]? = some (dko D) → HoldsRow D x →
    ∃ x' y', forL (same (.g (.lst L)) (.lst L)) (forS T (GI.run T (n + 5)) (.nm 4) (.cons (.asg 3 (.call 17 (.cons (.var 3) (.cons (.var 4) .nil)) [] .nil)) (.cons (.ife (.not_ (.call 19 (.cons (.var 2) (.cons (.var 4) (.cons (.var 1) .nil))) [] .nil)) (.cons (.ret (.so (.lst false .nil))) .nil) (.nil)) .nil)))
      (ds.map dG) ⟨[.val (.lst L), .val (.int t), .val (.ref d), x, y], h⟩ = .ok .nx ⟨[.val (.lst L), .val (.int t), .val (.ref d), x', y'], h.set d (dko (endD D ds))⟩ ∧ HoldsRow (endD D ds) x'
  | [], D, h, x, y, _, hd, hx => by
    refine ⟨x, y, ?_, hx⟩
    rw [List.map_nil, forL_nil same_lst, show endD D [] = D from rfl, set_same hd]
  | e :: es, D, h, x, y, hg, hd, hx => by
    cases hg with
    | cons g gl =>
      have hd' : (h.set d (dko (D.did e)))[d]? = some (dko (D.did e)) := sat hd
      obtain ⟨x', y', e1, hx'⟩ := loop21 n d t L es (D.did e) (h.set d (dko (D.did e))) (.val (rG (row (D.did e)))) (.val (dG e)) gl hd' (.inr rfl)
      refine ⟨x', y', ?_, hx'⟩
      rw [List.map_cons, forL_cons same_lst, forS_eq]
      have g17 := fun s => c17 (n := n + 3) g (s := s)
      simp only [rG] at g17
      rw [List.set_set] at e1
      rcases hx with rfl | rfl
      · simp [g17, c19 (n := n) g hd]
        rw [← rG, e1]; rfl
      · simp [rG, g17, c19 (n := n) g hd]
        rw [← rG, e1]; rfl
theorem r21 (n t : Nat) (ds : List Deed) (h : List GO) (g : GoodL ⟨[], 0, 0⟩ ds) : GI.run T (n + 6) 21 [.lst (ds.map dG), .int t] h = .ok (.lst [.ref h.length, rG (row (endD ⟨[], 0, 0⟩ ds))]) (h ++ [dko (endD ⟨[], 0, 0⟩ ds)]) := by
  rw [run_at T_f21 rfl]
  have e : (h ++ [dko ⟨[], 0, 0⟩])[h.length]? = some (dko ⟨[], 0, 0⟩) := by simp
  obtain ⟨x', y', e1, hx'⟩ := loop21 n h.length t (ds.map dG) ds ⟨[], 0, 0⟩ (h ++ [dko ⟨[], 0, 0⟩]) (.own (.lst [])) .no g e (.inl rfl)
  have e2 : ∀ o, (h ++ [dko ⟨[], 0, 0⟩]).set h.length o = h ++ [o] := fun o => by
    rw [List.set_append_right _ _ (Nat.le_refl _), Nat.sub_self]; rfl
  rw [e2] at e1
  have i1 : ∀ l, items (.lst l) = some l := fun _ => rfl
  simp [g21, b21, mk0, i1, e1]
  rcases hx' with rfl | rfl
  · simp [sz2, rG]
  · simp [sz2]
theorem c21 {n t : Nat} {ds : List Deed} (g : GoodL ⟨[], 0, 0⟩ ds) {σ : List Sl} {h : List GO} : callF T (GI.run T (n + 6)) 21 [.lst (ds.map dG), .int t] [] [] ⟨σ, h⟩ = .ok (.g (.lst [.ref h.length, rG (row (endD ⟨[], 0, 0⟩ ds))])) ⟨σ, h ++ [dko (endD ⟨[], 0, 0⟩ ds)]⟩ := by
  rw [call_at T_f21 rfl rfl rfl, r21 n t ds h g]; rfl
end K06
set_option Elab.async false
set_option linter.all false
set_option maxRecDepth 100000
set_option maxHeartbeats 4000000
namespace K06
open PySem PySem.Spec PyProof.Rows L2 GI
def Deed.nam : Deed → String
  | .put _ => "put" | .sync => "sync" | .settle _ => "settle" | .swap _ _ => "swap" | .trim _ => "trim" | .lose _ => "lose" | .fall _ => "fall"
theorem rd_dG (s : GS) (e : Deed) : GI.rd s (.g (dG e)) = dG e := by cases e <;> rfl
theorem gix_dG0 (e : Deed) : gix (dG e) (.int 0) = some (.str (Str.ofString e.nam)) := by cases e <;> simp [dG, Deed.nam, gix_lst]
theorem unpk_pair (a b : GV) : unpk (.lst [a, b]) 2 = some [a, b] := rfl
theorem didcut {D : Dk} {e : Deed} (hi : D.inv) (he : (∃ k, e = .lose k) ∨ ∃ k, e = .fall k) : ∃ m, D.did e = D.cut m ∧ D.se ≤ m ∧ m ≤ D.t.length ∧ (e.nam = "fall" → D.sy ≤ m) := by
  have ha := hi.a
  have hb := hi.b
  rcases he with ⟨k, rfl⟩ | ⟨k, rfl⟩
  · exact ⟨_, rfl, by omega, by omega, fun z => by simp [Deed.nam] at z⟩
  · exact ⟨_, rfl, by omega, fall_le hb, fun _ => by omega⟩
theorem r22 (n d t : Nat) (D : Dk) (e : Deed) (h : List GO) (hd : h[d]? = some (dko D)) (hi : D.inv) (hz : D.t.length + 1000 ≤ Big) (he : (∃ k, e = .lose k) ∨ ∃ k, e = .fall k) : GI.run T (n + 6) 22 [.lst [.ref d, rG (row D)], dG e, .int t] h = .ok (.bl true) (h.set d (dko (D.did e))) := by
  rw [run_at T_f22 rfl]
  have g : GoodD D e := ⟨hi, by rcases he with ⟨k, rfl⟩ | ⟨k, rfl⟩ <;> exact True.intro, hz, by rcases he with ⟨k, rfl⟩ | ⟨k, rfl⟩ <;> (rintro x (z | ⟨_, z⟩) <;> cases z)⟩
  obtain ⟨m, em, m1, m2, m3⟩ := didcut hi he
  have hi' : (D.did e).inv := did_inv hi g.e
  have hd' : (h.set d (dko (D.did e)))[d]? = some (dko (D.did e)) := sat hd
  have hl : (D.did e).t.length = m := by rw [em]; show (D.t.take m).length = m; rw [List.length_take]; omega
  have ht : (D.did e).t = D.t.take m := by rw [em]; rfl
  have hy : (D.did e).sy = m := by rw [em]; rfl
  have hs : (D.did e).se = D.se := by rw [em]; rfl
  have el := bi_lens (x := S (D.did e).t) (by simpa using big_line (show (D.did e).t.length ≤ Big by omega))
  rw [S_len, hl, ht] at el
  have eb := gsl_S D.t m (by omega)
  have q1 := fun s => c17 (n := n + 3) g (s := s)
  have q2 := fun σ => c20 (n := n + 4) hi (show D.t.length ≤ Big by omega) (σ := σ) hd
  have q3 := fun σ => c20 (n := n + 4) hi' (show (D.did e).t.length ≤ Big by omega) (σ := σ) hd'
  have q4 := fun σ => c19 (n := n) (t := t) g (σ := σ) hd
  have a1 := fun σ => att_t (σ := σ) hd
  have a2 := fun σ => att_y (σ := σ) hd
  have a3 := fun σ => att_e (σ := σ) hd
  have a4 := fun σ => att_t (σ := σ) hd'
  have a5 := fun σ => att_y (σ := σ) hd'
  have a6 := fun σ => att_e (σ := σ) hd'
  by_cases c : e.nam = "fall"
  · have m4 := m3 c
    simp [g22, b22, unpk_pair, q2, a1, a2, a3, rd_dG, gix_dG0, c, q4, q1, q3, a4, a5, a6, el, m4, eb, ht, hy, hs]
  · simp [g22, b22, unpk_pair, q2, a1, a2, a3, rd_dG, gix_dG0, c, q4, q1, q3, a4, a5, a6, el, m1, eb, ht, hy, hs]
theorem c22 {n d t : Nat} {D : Dk} {e : Deed} {σ : List Sl} {h : List GO} (hd : h[d]? = some (dko D)) (hi : D.inv) (hz : D.t.length + 1000 ≤ Big) (he : (∃ k, e = .lose k) ∨ ∃ k, e = .fall k) : callF T (GI.run T (n + 6)) 22 [.lst [.ref d, rG (row D)], dG e, .int t] [] [] ⟨σ, h⟩ = .ok (.g (.bl true)) ⟨σ, h.set d (dko (D.did e))⟩ := by
  rw [call_at T_f22 rfl rfl rfl, r22 n d t D e h hd hi hz he]; rfl
/-! ### a history goes on -/
def StD (d a B : Nat) (D : Dk) (h : List GO) : Prop := h[d]? = some (dko D) ∧ D.inv ∧ BoxAt a B h ∧ d ≠ a
theorem BoxAt.set {a B d : Nat} {h : List GO} {o : GO} (b : BoxAt a B h) (n : d ≠ a) : BoxAt a B (h.set d o) := by
  obtain ⟨b0, b1, b2, b3, e, p⟩ := b.ex
  exact ⟨b0, b1, b2, b3, by rw [List.getElem?_set_ne n]; exact e, p⟩
theorem Chg.at1 {a d : Nat} {h h' : List GO} {o : GO} (c : Chg [a] h h') (n : d ≠ a) (e : h[d]? = some o) : h'[d]? = some o := c.keep d o (by simpa using n) e
theorem Chg.set1 {as : List Nat} {d : Nat} {h : List GO} {o : GO} (m : d ∈ as) : Chg as h (h.set d o) := (Chg.set (a := d)).mono fun i z => by
  have : i = d := by simpa using z
  rw [this]; exact m
theorem in02 (k : Nat) : cmpop .In (.int (k : Int)) (.lst [.int 0, .int 2]) = some (decide (k = 0 ∨ k = 2)) := in2 k 0 2
theorem lf (x : Nat) (hx : x < 2) : ∃ s, atI [GV.str (Str.ofString "lose"), .str (Str.ofString "fall")] (x : Int) = some (.str (Str.ofString s)) ∧ (s = "lose" ∨ s = "fall") := by
  have : x = 0 ∨ x = 1 := by omega
  rcases this with rfl | rfl
  · exact ⟨"lose", by simp, .inl rfl⟩
  · exact ⟨"fall", by simp, .inr rfl⟩
theorem mod2 (t : Int) : binop .Mod (.int t) (.int 2) = some (.g (.int (t % 2))) := bn_mod (by omega)
theorem c19m {n d t : Nat} {D : Dk} {e : Deed} (g : GoodD D e) {σ : List Sl} {h : List GO} (hd : h[d]? = some (dko D)) : callF T (GI.run T (n + 5)) 19 [.ref d, dG e, .int ((t : Int) % 2)] [] [] ⟨σ, h⟩ = .ok (.g (.bl true)) ⟨σ, h.set d (dko (D.did e))⟩ := c19 (t := t % 2) g hd
theorem fall_len {D : Dk} (hi : D.inv) {e : Deed} (he : (∃ k, e = .lose k) ∨ ∃ k, e = .fall k) : (D.did e).t.length ≤ D.t.length := by
  obtain ⟨m, em, m1, m2, m3⟩ := didcut hi he
  rw [em]
  show (D.t.take m).length ≤ _
  rw [List.length_take]; omega
def lb23 : ISs := (.cons (.asg 5 (.ife (.cmp .In (.var 4) (.lst false (.cons (.con (.int 0)) (.cons (.con (.int 2)) .nil)))) (.call 18 (.cons (.var 0) (.cons (.var 3) .nil)) [] .nil) (.lst false (.cons (.ix (.lst false (.cons (.con (.str (Str.ofString "lose"))) (.cons (.con (.str (Str.ofString "fall"))) .nil))) (.call 14 (.cons (.var 0) (.cons (.con (.int 2)) .nil)) [] .nil)) (.cons (.call 14 (.cons (.var 0) (.cons (.bin .Add (.bi .len (.cons (.var 3) .nil)) (.con (.int 2))) .nil)) [] .nil) .nil))))) (.cons (.asg 3 (.call 17 (.cons (.var 3) (.cons (.var 5) .nil)) [] .nil)) (.cons (.ife (.or_ (.not_ (.call 19 (.cons (.var 2) (.cons (.var 5) (.cons (.bin .Mod (.bi .int (.cons (.var 4) .nil)) (.con (.int 2))) .nil))) [] .nil)) (.not_ (.call 20 (.cons (.var 2) (.cons (.var 3) .nil)) [] .nil))) (.cons (.ret (.so (.con (.bl false)))) .nil) (.nil)) .nil)))
theorem c18 {n a B : Nat} {D : Dk} {h : List GO} {σ : List Sl} (hb : BoxAt a B h) (hi : D.inv) (hz : D.t.length ≤ 28) (hB : B + 30 ≤ 2 ^ 37) : ∃ (e : Deed) (h' : List GO), callF T (GI.run T (n + 3)) 18 [.ref a, rG (row D)] [] [] ⟨σ, h⟩ = .ok (.g (dG e)) ⟨σ, h'⟩ ∧ Drawn a B D h e h' := by
  obtain ⟨e, h', r, dr⟩ := r18 n a B D h hb hi hz hB
  exact ⟨e, h', by rw [call_at T_f18 rfl rfl rfl, r]; rfl, dr⟩
/-- the deed drawn in a turn -/
theorem step23 (n d a B t : Nat) (v : GV) (D : Dk) (y z : Sl) (h : List GO) (hs : StD d a B D h) (hz : D.t.length ≤ 28) (hB : B + 32 ≤ 2 ^ 37) :
    ∃ (D' : Dk) (h' : List GO) (e : Deed), forS T (GI.run T (n + 6)) (.nm 4) lb23 (.int t) ⟨[.val (.ref a), .val v, .val (.ref d), .val (rG (row D)), y, z], h⟩ = .ok .nx ⟨[.val (.ref a), .val v, .val (.ref d), .val (rG (row D')), .val (.int t), .val (dG e)], h'⟩ ∧
      StD d a (B + 32) D' h' ∧ D'.t.length ≤ 28 ∧ Chg [a, d] h h' := by
  obtain ⟨hd, hi, hb, hn⟩ := hs
  have i02 := in02 t
  have key : ∀ (e : Deed) (h1 : List GO) (B1 : Nat), B1 ≤ B + 32 → e.ok D → (D.did e).t.length ≤ 28 → (∀ x : List Nat, e = Deed.put x ∨ (∃ k, e = Deed.swap x k) → x.length ≤ 1000) → BoxAt a B1 h1 → Chg [a] h h1 →
      ∃ h', callF T (GI.run T (n + 6)) 19 [.ref d, dG e, .int ((t : Int) % 2)] [] [] ⟨[.val (.ref a), .val v, .val (.ref d), .val (rG (row (D.did e))), .val (.int t), .val (dG e)], h1⟩ = .ok (.g (.bl true)) ⟨[.val (.ref a), .val v, .val (.ref d), .val (rG (row (D.did e))), .val (.int t), .val (dG e)], h'⟩ ∧
        callF T (GI.run T (n + 6)) 20 [.ref d, rG (row (D.did e))] [] [] ⟨[.val (.ref a), .val v, .val (.ref d), .val (rG (row (D.did e))), .val (.int t), .val (dG e)], h'⟩ = .ok (.g (.bl true)) ⟨[.val (.ref a), .val v, .val (.ref d), .val (rG (row (D.did e))), .val (.int t), .val (dG e)], h'⟩ ∧
        (∀ s, callF T (GI.run T (n + 6)) 17 [rG (row D), dG e] [] [] s = .ok (.g (rG (row (D.did e)))) s) ∧ StD d a (B + 32) (D.did e) h' ∧ Chg [a, d] h h' := by
    intro e h1 B1 hB1 ok z1 z2 b1 c1
    have g : GoodD D e := ⟨hi, ok, by unfold Big; omega, z2⟩
    have hd1 := Chg.at1 c1 hn hd
    refine ⟨h1.set d (dko (D.did e)), c19m (n := n + 1) g hd1, c20 (n := n + 5) (did_inv hi ok) (by unfold Big; omega) (sat hd1), fun s => c17 (n := n + 4) g, ⟨sat hd1, did_inv hi ok, (b1.up hB1).set hn, hn⟩, (c1.mono (by simp)).trans (Chg.set1 (by simp))⟩
  by_cases ht : t = 0 ∨ t = 2
  · obtain ⟨e, h1, e1, dr⟩ := c18 (n := n + 3) (σ := [.val (.ref a), .val v, .val (.ref d), .val (rG (row D)), .val (.int t), z]) hb hi hz (by omega)
    obtain ⟨h', k1, k2, k3, k4, k5⟩ := key e h1 (B + 30) (by omega) dr.ok dr.z dr.x dr.b dr.c
    refine ⟨D.did e, h', e, ?_, k4, dr.z, k5⟩
    rw [forS_eq]
    simp [lb23, sz2, i02, ht, e1, k3, mod2, k1, k2]
  · obtain ⟨m1, h1, e1, p1, b1, t1⟩ := c14 (n := n + 5) (m := 2) (σ := [.val (.ref a), .val v, .val (.ref d), .val (rG (row D)), .val (.int t), z]) hb (by omega) (by omega) (by omega)
    obtain ⟨m2, h2, e2, p2, b2, t2⟩ := c14 (n := n + 5) (m := D.t.length + 2) (σ := [.val (.ref a), .val v, .val (.ref d), .val (rG (row D)), .val (.int t), z]) b1 (by omega) (by omega) (by omega)
    rw [show ((2 : Nat) : Int) = 2 from rfl] at e1
    rw [show ((D.t.length + 2 : Nat) : Int) = (D.t.length : Int) + 2 by omega] at e2
    have key2 : ∀ e : Deed, ((∃ k, e = .lose k) ∨ ∃ k, e = .fall k) → _ := fun e he => key e h2 (B + 1 + 1) (by omega) (by rcases he with ⟨k, rfl⟩ | ⟨k, rfl⟩ <;> exact True.intro) (Nat.le_trans (fall_len hi he) hz)
      (by rcases he with ⟨k, rfl⟩ | ⟨k, rfl⟩ <;> (rintro x (z | ⟨_, z⟩) <;> cases z)) b2 (t1.trans t2)
    have hm : m1 = 0 ∨ m1 = 1 := by omega
    rcases hm with rfl | rfl
    · obtain ⟨h', k1, k2, k3, k4, k5⟩ := key2 (.lose m2) (.inl ⟨_, rfl⟩)
      refine ⟨D.did (.lose m2), h', .lose m2, ?_, k4, Nat.le_trans (fall_len hi (.inl ⟨_, rfl⟩)) hz, k5⟩
      simp only [dG] at k1 k2 k3
      rw [forS_eq]
      simp [lb23, sz2, i02, ht, e1, e2, len_rG, rd_rG, row_len, gix_lst, k3, mod2, k1, k2, dG]
    · obtain ⟨h', k1, k2, k3, k4, k5⟩ := key2 (.fall m2) (.inr ⟨_, rfl⟩)
      refine ⟨D.did (.fall m2), h', .fall m2, ?_, k4, Nat.le_trans (fall_len hi (.inr ⟨_, rfl⟩)) hz, k5⟩
      simp only [dG] at k1 k2 k3
      rw [forS_eq]
      simp [lb23, sz2, i02, ht, e1, e2, len_rG, rd_rG, row_len, gix_lst, k3, mod2, k1, k2, dG]
end K06
set_option Elab.async false
set_option linter.all false
set_option maxRecDepth 100000
set_option maxHeartbeats 4000000
namespace K06
open PySem PySem.Spec PyProof.Rows L2 GI
theorem range_get {n j : Nat} {x : GV} (h : ((List.range n).map fun k => GV.int (k : Nat))[j]? = some x) : j < n ∧ x = .int (j : Nat) := by
  rw [List.getElem?_map] at h
  by_cases hj : j < n
  · rw [List.getElem?_eq_getElem (by simpa using hj)] at h
    simp at h
    exact ⟨hj, h.symm⟩
  · rw [List.getElem?_eq_none (by simpa using hj)] at h; cases h
theorem r23 (n d a B : Nat) (D : Dk) (h : List GO) (hs : StD d a B D h) (hz : D.t.length ≤ 28) (hB : B ≤ 2 ^ 36) : ∃ h', GI.run T (n + 7) 23 [.ref a, .lst [.ref d, rG (row D)]] h = .ok (.bl true) h' ∧ BoxAt a (B + 160) h' ∧ Chg [a, d] h h' := by
  obtain ⟨s', e1, hI⟩ := forL_inv (same := same (.g .non) .non) (step := forS T (GI.run T (n + 6)) (.nm 4) lb23) (fun i s => ∃ D' h' y z, s = ⟨[.val (.ref a), .val (.lst [.ref d, rG (row D)]), .val (.ref d), .val (rG (row D')), y, z], h'⟩ ∧ StD d a (B + 32 * i) D' h' ∧ D'.t.length ≤ 28 ∧ Chg [a, d] h h' ∧ i ≤ 5)
    (xs := (List.range 5).map fun k => .int (k : Nat)) (s := ⟨[.val (.ref a), .val (.lst [.ref d, rG (row D)]), .val (.ref d), .val (rG (row D)), .no, .no], h⟩) (i := 0) ⟨D, h, .no, .no, rfl, hs, hz, Chg.refl, by omega⟩ (fun _ _ _ => rfl) (fun j s x hx ⟨D1, h1, y, z, es, hs1, hz1, c1, hi⟩ => by
      obtain ⟨hj, rfl⟩ := range_get hx
      subst es
      rw [Nat.zero_add] at hs1 hi
      obtain ⟨D2, h2, e, r, hs2, hz2, c2⟩ := step23 n d a (B + 32 * j) j (.lst [.ref d, rG (row D)]) D1 y z h1 hs1 hz1 (by omega)
      exact ⟨_, r, D2, h2, _, _, rfl, by rw [show B + 32 * (0 + j + 1) = B + 32 * j + 32 by omega]; exact hs2, hz2, c1.trans c2, by omega⟩)
  obtain ⟨D', h', y, z, es, hs', hz', c', _⟩ := hI
  subst es
  refine ⟨h', ?_, by simpa using hs'.2.2.1, c'⟩
  rw [run_at T_f23 rfl]
  have hr := rngF_n (s := ⟨[.val (.ref a), .val (.lst [.ref d, rG (row D)]), .val (.ref d), .val (rG (row D)), .no, .no], h⟩) 5 (by omega)
  rw [show ((5 : Nat) : Int) = 5 from rfl] at hr
  have hb : b23 = .cons (.unp [2, 3] (.var 1)) (.cons (.for_ (.nm 4) (.rng (.cons (.con (.int 5)) .nil)) lb23) (.cons (.ret (.so (.con (.bl true)))) .nil)) := rfl
  simp [g23, hb, unpk_pair, hr, e1]
theorem c23 {n d a B : Nat} {D : Dk} {h : List GO} {σ : List Sl} (hs : StD d a B D h) (hz : D.t.length ≤ 28) (hB : B ≤ 2 ^ 36) : ∃ h', callF T (GI.run T (n + 7)) 23 [.ref a, .lst [.ref d, rG (row D)]] [] [] ⟨σ, h⟩ = .ok (.g (.bl true)) ⟨σ, h'⟩ ∧ BoxAt a (B + 160) h' ∧ Chg [a, d] h h' := by
  obtain ⟨h', r, p⟩ := r23 n d a B D h hs hz hB
  exact ⟨h', by rw [call_at T_f23 rfl rfl rfl, r]; rfl, p⟩
/-! ### swapped -/
def lb24 : ISs := (.cons (.asg 3 (.call 17 (.cons (.var 3) (.cons (.var 7) .nil)) [] .nil)) (.cons (.ife (.or_ (.not_ (.call 19 (.cons (.var 2) (.cons (.var 7) (.cons (.bin .Mod (.bi .int (.cons (.var 5) .nil)) (.con (.int 2))) .nil))) [] .nil)) (.not_ (.call 20 (.cons (.var 2) (.cons (.var 3) .nil)) [] .nil))) (.cons (.ret (.so (.con (.bl false)))) .nil) (.nil)) .nil))
theorem step24 (n d a st : Nat) (v v4 v6 : GV) (D : Dk) (e : Deed) (z8 : Sl) (h : List GO) (z7 : Sl) (hd : h[d]? = some (dko D)) (g : GoodD D e) (hz : (D.did e).t.length ≤ Big) :
    forS T (GI.run T (n + 5)) (.nm 7) lb24 (dG e) ⟨[.val (.ref a), .val v, .val (.ref d), .val (rG (row D)), .val v4, .val (.int st), .val v6, z7, z8], h⟩ = .ok .nx ⟨[.val (.ref a), .val v, .val (.ref d), .val (rG (row (D.did e))), .val v4, .val (.int st), .val v6, .val (dG e), z8], h.set d (dko (D.did e))⟩ := by
  have k1 := fun s => c17 (n := n + 3) g (s := s)
  have k2 := fun σ => c19m (n := n) (t := st) g (σ := σ) hd
  have k3 := fun σ => c20 (n := n + 4) (did_inv g.i g.e) hz (σ := σ) (sat hd)
  rw [forS_eq]
  simp [lb24, k1, mod2, k2, k3]
theorem enew : Str.ofString "new" = S [110, 101, 119] := by decide +kernel
theorem ehash : Str.ofString "#" = S [35] := by decide +kernel
theorem ofS_len {x : String} : (Str.ofString x).length = x.toList.length := by rw [S_ofs]; simp
theorem r24 (n d a B : Nat) (D : Dk) (h : List GO) (hs : StD d a B D h) (hz : D.t.length ≤ 28) (hB : B ≤ 2 ^ 36) : ∃ h', GI.run T (n + 6) 24 [.ref a, .lst [.ref d, rG (row D)]] h = .ok (.bl true) h' ∧ BoxAt a (B + 40) h' ∧ Chg [a, d] h h' := by
  obtain ⟨hd, hi, hb, hn⟩ := hs
  have hBig : Big = 1000000 := rfl
  have y1 : lcL (same (.g (rG (row D))) (rG (row D))) (lcS T (GI.run T (n + 5)) (.con (.str (Str.ofString "#"))) (.nm 8) .no [8]) ((row D).map pG) [] ⟨[.val (.ref a), .val (.lst [.ref d, rG (row D)]), .val (.ref d), .val (rG (row D)), .no, .no, .no, .no, .no], h⟩ =
      .ok (((row D).map fun _ => 35).map fun c => .str (S [c])) ⟨[.val (.ref a), .val (.lst [.ref d, rG (row D)]), .val (.ref d), .val (rG (row D)), .no, .no, .no, .no, .no], h⟩ := by
    rw [List.map_map]
    refine lcL_mapL pG (fun _ => .str (S [35])) rfl (fun p hp => ?_) (by rw [row_len]; exact big_line (by omega))
    simp [lcS, ehash]
  obtain ⟨hh, ehh⟩ : ∃ hh : List Nat, hh = (row D).map fun _ => 35 := ⟨_, rfl⟩
  have lhh : hh.length = D.t.length := by rw [ehh, List.length_map, row_len]
  have ohh : okc hh := by
    intro c hc
    rw [ehh] at hc
    obtain ⟨p, _, rfl⟩ := List.mem_map.mp hc
    omega
  rw [← ehh] at y1
  have hj := jn_sgs hh (by omega)
  obtain ⟨m1, h1, e1, p1, b1, t1⟩ := c14 (n := n + 4) (m := 4) (σ := [.val (.ref a), .val (.lst [.ref d, rG (row D)]), .val (.ref d), .val (rG (row D)), .no, .no, .no, .no, .no]) hb (by omega) (by omega) (by omega)
  obtain ⟨x, h2, e2, lx, ox, b2, t2⟩ := c15 (n := n + 3) (m := m1) (σ := [.val (.ref a), .val (.lst [.ref d, rG (row D)]), .val (.ref d), .val (rG (row D)), .no, .no, .no, .no, .no]) b1 (by omega) (by omega)
  have eapp := bn_strs (x := S hh) (y := S x) (by simpa using big_line (show hh.length + x.length ≤ Big by omega))
  rw [S_app] at eapp
  obtain ⟨sg, esg⟩ : ∃ sg, sg = hh ++ x := ⟨_, rfl⟩
  rw [← esg] at eapp
  have lsg : sg.length ≤ 31 := by rw [esg, List.length_append]; omega
  have osg : okc sg := by
    intro c hc
    rw [esg] at hc
    rcases List.mem_append.mp hc with z | z
    · exact ohh c z
    · exact ox c z
  have el := bi_lens (x := S sg) (by simpa using big_line (show sg.length ≤ Big by omega))
  rw [S_len] at el
  obtain ⟨st, h3, e3, p3, b3, t3⟩ := c14 (n := n + 4) (m := sg.length + 1) (σ := [.val (.ref a), .val (.lst [.ref d, rG (row D)]), .val (.ref d), .val (rG (row D)), .val (.str (S sg)), .no, .no, .no, .no]) b2 (by omega) (by omega) (by omega)
  obtain ⟨k, h4, e4, p4, b4, t4⟩ := c14 (n := n + 4) (m := sg.length + 5) (σ := [.val (.ref a), .val (.lst [.ref d, rG (row D)]), .val (.ref d), .val (rG (row D)), .val (.str (S sg)), .val (.int st), .no, .no, .no]) b3 (by omega) (by omega) (by omega)
  rw [show ((4 : Nat) : Int) = 4 from rfl] at e1
  rw [show ((sg.length + 1 : Nat) : Int) = (sg.length : Int) + 1 by omega] at e3
  rw [show ((sg.length + 5 : Nat) : Int) = (sg.length : Int) + 5 by omega] at e4
  have hc4 : Chg [a] h h4 := ((t1.trans t2).trans t3).trans t4
  have hd4 := Chg.at1 hc4 hn hd
  -- the deeds
  have g1 : GoodD D (.swap sg st) := ⟨hi, ⟨osg, by omega⟩, by omega, by rintro y (z | ⟨_, z⟩) <;> cases z; omega⟩
  obtain ⟨D1, eD1⟩ : ∃ D1, D1 = D.did (.swap sg st) := ⟨_, rfl⟩
  have i1 : D1.inv := eD1 ▸ did_inv hi g1.e
  have t1' : D1.t = sg ∧ D1.sy = sg.length ∧ D1.se = st := by rw [eD1]; exact ⟨rfl, rfl, rfl⟩
  have g2 : GoodD D1 (.put [110, 101, 119]) := ⟨i1, (by intro c hc; simp at hc; omega), by rw [t1'.1]; omega, by rintro y (z | ⟨_, z⟩) <;> cases z; simp⟩
  obtain ⟨D2, eD2⟩ : ∃ D2, D2 = D1.did (.put [110, 101, 119]) := ⟨_, rfl⟩
  have i2 : D2.inv := eD2 ▸ did_inv i1 g2.e
  have t2' : D2.t = sg ++ [110, 101, 119] ∧ D2.sy = sg.length ∧ D2.se = st := by rw [eD2]; exact ⟨by show D1.t ++ _ = _; rw [t1'.1], t1'.2.1, t1'.2.2⟩
  have l2 : D2.t.length ≤ 34 := by rw [t2'.1, List.length_append]; simp; omega
  have g3 : GoodD D2 (.lose k) := ⟨i2, True.intro, by omega, by rintro y (z | ⟨_, z⟩) <;> cases z⟩
  obtain ⟨D3, eD3⟩ : ∃ D3, D3 = D2.did (.lose k) := ⟨_, rfl⟩
  have i3 : D3.inv := eD3 ▸ did_inv i2 g3.e
  have l3 : D3.t.length ≤ 34 := Nat.le_trans (eD3 ▸ fall_len i2 (.inl ⟨_, rfl⟩)) l2
  have t3' : D3.se = st ∧ D3.t.take st = sg.take st := by
    obtain ⟨m, em, n1, n2, _⟩ := didcut i2 (e := .lose k) (.inl ⟨_, rfl⟩)
    rw [eD3, em]
    refine ⟨t2'.2.2, ?_⟩
    show (D2.t.take m).take st = _
    rw [List.take_take, t2'.1, Nat.min_eq_left (by rw [t2'.2.2] at n1; exact n1), List.take_append_of_le_length (by omega)]
  have g4 : GoodD D3 (.fall 1) := ⟨i3, True.intro, by omega, by rintro y (z | ⟨_, z⟩) <;> cases z⟩
  obtain ⟨D4, eD4⟩ : ∃ D4, D4 = D3.did (.fall 1) := ⟨_, rfl⟩
  have i4 : D4.inv := eD4 ▸ did_inv i3 g4.e
  have l4 : D4.t.length ≤ 34 := Nat.le_trans (eD4 ▸ fall_len i3 (.inr ⟨_, rfl⟩)) l3
  have t4' : D4.se = st ∧ D4.t.take st = sg.take st := by
    obtain ⟨m, em, n1, n2, _⟩ := didcut i3 (e := .fall 1) (.inr ⟨_, rfl⟩)
    rw [eD4, em]
    refine ⟨t3'.1, ?_⟩
    show (D3.t.take m).take st = _
    rw [List.take_take, Nat.min_eq_left (by rw [t3'.1] at n1; exact n1), t3'.2]
  have g5 : GoodD D4 (.lose 0) := ⟨i4, True.intro, by omega, by rintro y (z | ⟨_, z⟩) <;> cases z⟩
  obtain ⟨D5, eD5⟩ : ∃ D5, D5 = D4.did (.lose 0) := ⟨_, rfl⟩
  have t5' : D5.se = st ∧ D5.t = sg.take st := by
    rw [eD5]
    refine ⟨t4'.1, ?_⟩
    show D4.t.take (max D4.se (min 0 D4.t.length)) = _
    rw [t4'.1, Nat.zero_min, Nat.max_zero, t4'.2]
  have l5 : D5.t.length ≤ 34 := Nat.le_trans (eD5 ▸ fall_len i4 (.inl ⟨_, rfl⟩)) l4
  have eb := gsl_S sg st (by omega)
  obtain ⟨ds, eds⟩ : ∃ ds : List GV, ds = [dG (.swap sg st), dG (.put [110, 101, 119]), dG (.lose k), dG (.fall 1), dG (.lose 0)] := ⟨_, rfl⟩
  have hds : [GV.lst [.str (Str.ofString "swap"), .str (S sg), .int st], .lst [.str (Str.ofString "put"), .str (S [110, 101, 119])], .lst [.str (Str.ofString "lose"), .int k], .lst [.str (Str.ofString "fall"), .int 1], .lst [.str (Str.ofString "lose"), .int 0]] = ds := eds ▸ rfl
  have hloop : forL (same (.g (.lst ds)) (.lst ds)) (forS T (GI.run T (n + 5)) (.nm 7) lb24) ds ⟨[.val (.ref a), .val (.lst [.ref d, rG (row D)]), .val (.ref d), .val (rG (row D)), .val (.str (S sg)), .val (.int st), .val (.lst ds), .no, .no], h4⟩ =
      .ok .nx ⟨[.val (.ref a), .val (.lst [.ref d, rG (row D)]), .val (.ref d), .val (rG (row D5)), .val (.str (S sg)), .val (.int st), .val (.lst ds), .val (dG (.lose 0)), .no], h4.set d (dko D5)⟩ := by
    have s1 := step24 n d a st (.lst [.ref d, rG (row D)]) (.str (S sg)) (.lst ds) D (.swap sg st) .no h4 .no hd4 g1 (by rw [← eD1, t1'.1]; omega)
    rw [← eD1] at s1
    have s2 := step24 n d a st (.lst [.ref d, rG (row D)]) (.str (S sg)) (.lst ds) D1 (.put [110, 101, 119]) .no (h4.set d (dko D1)) (.val (dG (.swap sg st))) (sat hd4) g2 (by rw [← eD2]; omega)
    rw [← eD2, List.set_set] at s2
    have s3 := step24 n d a st (.lst [.ref d, rG (row D)]) (.str (S sg)) (.lst ds) D2 (.lose k) .no (h4.set d (dko D2)) (.val (dG (.put [110, 101, 119]))) (sat hd4) g3 (by rw [← eD3]; omega)
    rw [← eD3, List.set_set] at s3
    have s4 := step24 n d a st (.lst [.ref d, rG (row D)]) (.str (S sg)) (.lst ds) D3 (.fall 1) .no (h4.set d (dko D3)) (.val (dG (.lose k))) (sat hd4) g4 (by rw [← eD4]; omega)
    rw [← eD4, List.set_set] at s4
    have s5 := step24 n d a st (.lst [.ref d, rG (row D)]) (.str (S sg)) (.lst ds) D4 (.lose 0) .no (h4.set d (dko D4)) (.val (dG (.fall 1))) (sat hd4) g5 (by rw [← eD5]; omega)
    rw [← eD5, List.set_set] at s5
    have q : ∀ (L : List GV), L = ds → forL (same (.g (.lst L)) (.lst L)) (forS T (GI.run T (n + 5)) (.nm 7) lb24) ds ⟨[.val (.ref a), .val (.lst [.ref d, rG (row D)]), .val (.ref d), .val (rG (row D)), .val (.str (S sg)), .val (.int st), .val (.lst ds), .no, .no], h4⟩ =
      .ok .nx ⟨[.val (.ref a), .val (.lst [.ref d, rG (row D)]), .val (.ref d), .val (rG (row D5)), .val (.str (S sg)), .val (.int st), .val (.lst ds), .val (dG (.lose 0)), .no], h4.set d (dko D5)⟩ := by
      intro L hL
      conv => lhs; arg 3; rw [eds]
      rw [forL_cons same_lst, s1, bind_ok, forK_nx, forL_cons same_lst, s2, bind_ok, forK_nx, forL_cons same_lst, s3, bind_ok, forK_nx, forL_cons same_lst, s4, bind_ok, forK_nx, forL_cons same_lst, s5, bind_ok, forK_nx, forL_nil same_lst]
    exact q ds rfl
  refine ⟨h4.set d (dko D5), ?_, (b4.up (by omega)).set hn, (hc4.mono (by simp)).trans (Chg.set1 (by simp))⟩
  rw [run_at T_f24 rfl]
  have hb' : ∃ r, b24 = .cons (.unp [2, 3] (.var 1)) (.cons (.asg 4 (.bin .Add (.bm (.con (.str (Str.ofString ""))) .join (.cons (.lc false (.con (.str (Str.ofString "#"))) (.nm 8) (.seq (.var 3)) .no [8]) .nil)) (.call 15 (.cons (.var 0) (.cons (.call 14 (.cons (.var 0) (.cons (.con (.int 4)) .nil)) [] .nil) .nil)) [] .nil))) (.cons (.asg 5 (.call 14 (.cons (.var 0) (.cons (.bin .Add (.bi .len (.cons (.var 4) .nil)) (.con (.int 1))) .nil)) [] .nil)) (.cons (.asg 6 r) (.cons (.for_ (.nm 7) (.seq (.var 6)) lb24) (.cons (.ret (.so (.and_ (.cmp .Eq (.att (.var 2) "text") (.sl (.var 4) .no (.so (.var 5)))) (.cmp .Eq (.att (.var 2) "settled") (.var 5))))) .nil)))))
      ∧ r = (.lst false (.cons (.lst false (.cons (.con (.str (Str.ofString "swap"))) (.cons (.var 4) (.cons (.var 5) .nil)))) (.cons (.lst false (.cons (.con (.str (Str.ofString "put"))) (.cons (.con (.str (Str.ofString "new"))) .nil))) (.cons (.lst false (.cons (.con (.str (Str.ofString "lose"))) (.cons (.call 14 (.cons (.var 0) (.cons (.bin .Add (.bi .len (.cons (.var 4) .nil)) (.con (.int 5))) .nil)) [] .nil) .nil))) (.cons (.lst false (.cons (.con (.str (Str.ofString "fall"))) (.cons (.con (.int 1)) .nil))) (.cons (.lst false (.cons (.con (.str (Str.ofString "lose"))) (.cons (.con (.int 0)) .nil))) .nil)))))) := ⟨_, rfl, rfl⟩
  obtain ⟨r, hb', hr⟩ := hb'
  have z5 : 5 ≤ sizeLine := by decide
  have a1 := fun σ => att_t (σ := σ) (sat (o' := dko D5) hd4)
  have a2 := fun σ => att_e (σ := σ) (sat (o' := dko D5) hd4)
  rw [t5'.2] at a1
  rw [t5'.1] at a2
  have i1 : ∀ l, items (.lst l) = some l := fun _ => rfl
  simp [g24, hb', hr, unpk_pair, rd_rG, it_rG, y1, hj, e1, e2, eapp, el, e3, e4, sz2, sz3, z5, enew, hds, i1, hloop, a1, a2, eb]
theorem c24 {n d a B : Nat} {D : Dk} {h : List GO} {σ : List Sl} (hs : StD d a B D h) (hz : D.t.length ≤ 28) (hB : B ≤ 2 ^ 36) : ∃ h', callF T (GI.run T (n + 6)) 24 [.ref a, .lst [.ref d, rG (row D)]] [] [] ⟨σ, h⟩ = .ok (.g (.bl true)) ⟨σ, h'⟩ ∧ BoxAt a (B + 40) h' ∧ Chg [a, d] h h' := by
  obtain ⟨h', r, p⟩ := r24 n d a B D h hs hz hB
  exact ⟨h', by rw [call_at T_f24 rfl rfl rfl, r]; rfl, p⟩
end K06
set_option Elab.async false
set_option linter.all false
set_option maxRecDepth 100000
set_option maxHeartbeats 4000000
namespace K06
open PySem PySem.Spec PyProof.Rows L2 GI
def rp (l : List Nat) (k : Nat) : List Nat := (List.replicate k l).flatten
theorem bn_rep {l : List Nat} {k : Nat} (h : l.length * k ≤ Big) (hk : k ≤ Big) : binop .Mult (.str (S l)) (.int (k : Int)) = some (.g (.str (S (rp l k)))) := by
  have hb : Big = 1000000 := rfl
  refine if_pos ⟨?_, by omega, by omega⟩
  show (S l).length * ((k : Int)).toNat ≤ sizeLine
  rw [S_len, Int.toNat_natCast]
  exact big_line h
theorem rp_len (l : List Nat) (k : Nat) : (rp l k).length = k * l.length := by unfold rp; simp [List.length_flatten]
theorem rp_ok {l : List Nat} (h : okc l) (k : Nat) : okc (rp l k) := by
  intro c hc
  obtain ⟨m, hm, hc⟩ := List.mem_flatten.mp hc
  rw [List.eq_of_mem_replicate hm] at hc
  exact h c hc
theorem rp_add (l : List Nat) (a b : Nat) : rp l a ++ rp l b = rp l (a + b) := by
  unfold rp
  rw [← List.flatten_append, List.replicate_append_replicate]
theorem rp_one (c k : Nat) : rp [c] k = List.replicate k c := by
  unfold rp
  induction k with
  | zero => rfl
  | succ k ih => rw [List.replicate_succ, List.flatten_cons, ih, List.replicate_succ]; rfl
theorem eab : Str.ofString "ab" = S [97, 98] := by decide +kernel
theorem ecc : Str.ofString "c" = S [99] := by decide +kernel
theorem exx : Str.ofString "x" = S [120] := by decide +kernel
def lb25 : ISs := (.cons (.exp (.meth (.var 2) "put" (.cons (.bin .Mult (.con (.str (Str.ofString "ab"))) (.var 1)) .nil) [] .nil)) .nil)
theorem lo (k : String) (l : List (String × Nat)) : List.lookup k l = List.lookup k l := rfl
theorem step25 (n d m : Nat) (j : Int) (v v3 v4 : GV) (y : Sl) (r : List Sl) (D : Dk) (h : List GO) (hd : h[d]? = some (dko D)) (hz : D.t.length + 2 * m ≤ Big) :
    forS T (GI.run T (n + 2)) (.nm 5) lb25 (.int j) ⟨.val v :: .val (.int m) :: .val (.ref d) :: .val v3 :: .val v4 :: y :: r, h⟩ = .ok .nx ⟨.val v :: .val (.int m) :: .val (.ref d) :: .val v3 :: .val v4 :: .val (.int j) :: r, h.set d (dko (D.did (.put (rp [97, 98] m))))⟩ := by
  have hb : Big = 1000000 := rfl
  have e1 := bn_rep (l := [97, 98]) (k := m) (by simp; omega) (by omega)
  have e2 := fun σ => c5 (n := n) (x := rp [97, 98] m) (σ := σ) hd (rp_ok (by intro c hc; simp at hc; omega) m) (by rw [rp_len]; simp; omega)
  rw [forS_eq]
  simp only [lb25, eab]
  simp [e1, mth "put" hd rfl, List.lookup, e2]
def greatD (st hl mn du : Nat) : PyData := .list [.list [.bool true, .int 0, .int 0], .list [.bool true, .int du, .int mn], .list [.bool true, .int st, .int st]]
def greatG (st mn du : Nat) : GV := .lst [.lst [.bl true, .int 0, .int 0], .lst [.bl true, .int du, .int mn], .lst [.bl true, .int st, .int st]]
theorem great_pd (st hl mn du : Nat) : (greatG st mn du).pd = some (greatD st hl mn du) := rfl
theorem great_rep {st mn du : Nat} (h1 : st ≤ Big) (h2 : mn ≤ Big) (h3 : du ≤ Big) : ∃ x, biF .repr [greatG st mn du] = some (.g (.str x)) := by
  have hb : Big = 1000000 := rfl
  have e0 := shown13 (i := 0) (by omega)
  have e1 := shown13 (i := (st : Int)) (by omega)
  have e2 := shown13 (i := (mn : Int)) (by omega)
  have e3 := shown13 (i := (du : Int)) (by omega)
  have l1 := log13 (i := (st : Int)) (by omega)
  have l2 := log13 (i := (mn : Int)) (by omega)
  have l3 := log13 (i := (du : Int)) (by omega)
  have l0 := log13 (i := 0) (by omega)
  refine ⟨_, bi_reprs (great_pd st 0 mn du) ?_ ?_ ?_ ?_⟩
  · simp [greatD, PyData.showable, PyData.showableAll]
    simp at l1 l2 l3 l0
    exact ⟨⟨l3, l2⟩, l1⟩
  · simp [greatD, PyData.leavesShort, PyData.leavesShortAll, e0, e1, e2, e3]
  · simp [greatD, PyData.bulk, PyData.bulkAll]
  · simp [greatD, PyData.depth, PyData.depthAll]
theorem BoxAt.push {a B : Nat} {h : List GO} {o : GO} (b : BoxAt a B h) : BoxAt a B (h ++ [o]) := by
  obtain ⟨b0, b1, b2, b3, e, p⟩ := b.ex
  exact ⟨b0, b1, b2, b3, by rw [List.getElem?_append_left (List.getElem?_eq_some_iff.mp e).1]; exact e, p⟩
theorem r25 (n a B : Nat) (h : List GO) (hb : BoxAt a B h) (hB : B ≤ 2 ^ 36) : ∃ h', GI.run T (n + 5) 25 [.ref a] h = .ok (.bl true) h' ∧ Chg [a] h h' := by
  have hBig : Big = 1000000 := rfl
  rw [run_at T_f25 rfl]
  obtain ⟨m0, h1, e1, p1, b1, t1⟩ := c14 (n := n + 3) (m := 5600) (σ := [.val (.ref a), .no, .no, .no, .no, .no, .no, .no, .no, .no, .no]) hb (by omega) (by omega) (by omega)
  rw [show ((5600 : Nat) : Int) = 5600 from rfl] at e1
  obtain ⟨m, em⟩ : ∃ m : Nat, m = 1 + m0 := ⟨_, rfl⟩
  have em' : (1 : Int) + (m0 : Int) = (m : Int) := by omega
  obtain ⟨d, ed⟩ : ∃ d : Nat, d = h1.length := ⟨_, rfl⟩
  have hn : d ≠ a := by
    obtain ⟨_, _, _, _, e, _⟩ := b1.ex
    have := (List.getElem?_eq_some_iff.mp e).1
    omega
  have em0 := fun σ => mk0 (n := n + 3) (σ := σ) (h := h1)
  rw [← ed] at em0
  obtain ⟨h2, eh2⟩ : ∃ h2, h2 = h1 ++ [dko ⟨[], 0, 0⟩] := ⟨_, rfl⟩
  rw [← eh2] at em0
  have hd2 : h2[d]? = some (dko ⟨[], 0, 0⟩) := by rw [eh2, ed]; simp
  have t2 : Chg [a] h1 h2 := eh2 ▸ Chg.push
  have b2 : BoxAt a (B + 1) h2 := eh2 ▸ b1.push
  obtain ⟨m3, em3⟩ : ∃ m3 : Nat, m3 = 3 * m := ⟨_, rfl⟩
  obtain ⟨m6, em6⟩ : ∃ m6 : Nat, m6 = 6 * m := ⟨_, rfl⟩
  have k3 : binop .Mult (.int 3) (.int m) = some (.g (.int m3)) := by rw [bn_mul (.inl (by omega)), em3]; simp
  have k6 : binop .Mult (.int 6) (.int m) = some (.g (.int m6)) := by rw [bn_mul (.inl (by omega)), em6]; simp
  obtain ⟨st, h3, e3, p3, b3, t3⟩ := c14 (n := n + 3) (m := m3 + 1) (σ := [.val (.ref a), .val (.int m), .val (.ref d), .no, .no, .no, .no, .no, .no, .no, .no]) b2 (by omega) (by omega) (by omega)
  obtain ⟨lf, h4, e4, p4, b4, t4⟩ := c14 (n := n + 3) (m := m6 + 1) (σ := [.val (.ref a), .val (.int m), .val (.ref d), .no, .no, .no, .no, .no, .no, .no, .no]) b3 (by omega) (by omega) (by omega)
  rw [show ((m3 + 1 : Nat) : Int) = (m3 : Int) + 1 by omega] at e3
  rw [show ((m6 + 1 : Nat) : Int) = (m6 : Int) + 1 by omega] at e4
  have hd4 : h4[d]? = some (dko ⟨[], 0, 0⟩) := Chg.at1 (t3.trans t4) hn hd2
  have t14 : Chg [a] h h4 := ((t1.trans t2).trans t3).trans t4
  -- three puts
  obtain ⟨ab, eab'⟩ : ∃ ab, ab = rp [97, 98] m := ⟨_, rfl⟩
  have lab : ab.length = 2 * m := by rw [eab', rp_len]; simp; omega
  have s1 := step25 (n + 2) d m 0 (.ref a) (.int st) (.int lf) .no [.no, .no, .no, .no, .no] ⟨[], 0, 0⟩ h4 hd4 (by simp; omega)
  rw [← eab'] at s1
  have s2 := step25 (n + 2) d m 1 (.ref a) (.int st) (.int lf) (.val (.int 0)) [.no, .no, .no, .no, .no] _ _ (sat (o' := dko ((⟨[], 0, 0⟩ : Dk).did (.put ab))) hd4) (by simp [Dk.did, lab]; omega)
  rw [← eab', List.set_set] at s2
  have s3 := step25 (n + 2) d m 2 (.ref a) (.int st) (.int lf) (.val (.int 1)) [.no, .no, .no, .no, .no] _ _ (sat (o' := dko (((⟨[], 0, 0⟩ : Dk).did (.put ab)).did (.put ab))) hd4) (by simp [Dk.did, lab]; omega)
  rw [← eab', List.set_set] at s3
  obtain ⟨t, et⟩ : ∃ t, t = rp [97, 98] m3 := ⟨_, rfl⟩
  have lt : t.length = m6 := by rw [et, rp_len]; simp; omega
  have ot : okc t := et ▸ rp_ok (by intro c hc; simp at hc; omega) m3
  have eD3 : ((((⟨[], 0, 0⟩ : Dk).did (.put ab)).did (.put ab)).did (.put ab)) = ⟨t, 0, 0⟩ := by
    have : ([] ++ ab ++ ab ++ ab : List Nat) = t := by
      rw [et, em3, eab', List.nil_append, rp_add, rp_add]
      congr 1; omega
    show (⟨[] ++ ab ++ ab ++ ab, 0, 0⟩ : Dk) = _
    rw [this]
  rw [eD3] at s3
  obtain ⟨i0, ei0⟩ : ∃ i0 : Int, i0 = 0 := ⟨_, rfl⟩
  have hl : forL (same (.g .non) .non) (forS T (GI.run T (n + 4)) (.nm 5) lb25) [.int 0, .int 1, .int 2] ⟨[.val (.ref a), .val (.int m), .val (.ref d), .val (.int st), .val (.int lf), .no, .no, .no, .no, .no, .no], h4⟩ =
      .ok .nx ⟨[.val (.ref a), .val (.int m), .val (.ref d), .val (.int st), .val (.int lf), .val (.int 2), .no, .no, .no, .no, .no], h4.set d (dko ⟨t, 0, 0⟩)⟩ := by
    rw [forL_cons same_non, s1, bind_ok, forK_nx, forL_cons same_non, s2, bind_ok, forK_nx, forL_cons same_non, s3, bind_ok, forK_nx, forL_nil same_non]
  have hr := rngF_n (s := ⟨[.val (.ref a), .val (.int m), .val (.ref d), .val (.int st), .val (.int lf), .no, .no, .no, .no, .no, .no], h4⟩) 3 (by omega)
  rw [show ((3 : Nat) : Int) = 3 from rfl, show (List.range 3).map (fun k => GV.int (k : Nat)) = [.int 0, .int 1, .int 2] from rfl] at hr
  -- behind them
  obtain ⟨h5, eh5⟩ : ∃ h5, h5 = h4.set d (dko ⟨t, 0, 0⟩) := ⟨_, rfl⟩
  rw [← eh5] at hl
  have hd5 : h5[d]? = some (dko ⟨t, 0, 0⟩) := eh5 ▸ sat hd4
  have v3 : (⟨t, 0, 0⟩ : Dk).inv := ⟨Nat.le_refl _, Nat.zero_le _, ot⟩
  have e5 := fun σ => c8 (n := n) (k := lf) (σ := σ) hd5 v3 (show t.length ≤ Big by omega)
  have eD4 : (⟨t, 0, 0⟩ : Dk).did (.fall lf) = ⟨t.take lf, lf, 0⟩ := by
    show (⟨t.take (0 + lf % (t.length - 0 + 1)), 0 + lf % (t.length - 0 + 1), 0⟩ : Dk) = _
    rw [Nat.mod_eq_of_lt (by omega), Nat.zero_add]
  rw [eD4] at e5
  have v4 : (⟨t.take lf, lf, 0⟩ : Dk).inv := eD4 ▸ did_inv v3 (e := .fall lf) True.intro
  have l4 : (t.take lf).length = lf := by rw [List.length_take]; omega
  have kmod : binop .Mod (.int lf) (.int ((m6 : Int) + 1)) = some (.g (.int lf)) := by
    rw [bn_mod (by omega), Int.emod_eq_of_lt (by omega) (by omega)]
  obtain ⟨h6, eh6⟩ : ∃ h6, h6 = h5.set d (dko ⟨t.take lf, lf, 0⟩) := ⟨_, rfl⟩
  rw [← eh6] at e5
  have hd6 : h6[d]? = some (dko ⟨t.take lf, lf, 0⟩) := eh6 ▸ sat hd5
  obtain ⟨cc, ecc'⟩ : ∃ cc, cc = rp [99] m := ⟨_, rfl⟩
  have lcc : cc.length = m := by rw [ecc', rp_len]; simp
  have kc := bn_rep (l := [99]) (k := m) (by simp; omega) (by omega)
  rw [← ecc'] at kc
  have occ : okc cc := ecc' ▸ rp_ok (by intro c hc; simp at hc; omega) m
  have e6 := fun σ => c5 (n := n + 2) (x := cc) (σ := σ) hd6 occ (by show (t.take lf).length + _ ≤ _; omega)
  obtain ⟨u, eu⟩ : ∃ u, u = t.take lf ++ cc := ⟨_, rfl⟩
  have eD5 : (⟨t.take lf, lf, 0⟩ : Dk).did (.put cc) = ⟨u, lf, 0⟩ := by rw [eu]; rfl
  have lu : u.length = lf + m := by rw [eu, List.length_append]; omega
  rw [eD5] at e6
  have v5 : (⟨u, lf, 0⟩ : Dk).inv := eD5 ▸ did_inv v4 (e := .put cc) occ
  obtain ⟨h7, eh7⟩ : ∃ h7, h7 = h6.set d (dko ⟨u, lf, 0⟩) := ⟨_, rfl⟩
  rw [← eh7] at e6
  have hd7 : h7[d]? = some (dko ⟨u, lf, 0⟩) := eh7 ▸ sat hd6
  obtain ⟨mn, emn⟩ : ∃ mn : Nat, mn = min st lf := ⟨_, rfl⟩
  have kmin : biF .min [.int st, .int lf] = some (.g (.int mn)) := by
    rw [bi_mini, show min (st : Int) (lf : Int) = (mn : Int) by omega]
  have e7 := fun σ => c10 (n := n + 1) (k := mn) (σ := σ) hd7 (Nat.zero_le _) (show mn ≤ lf by omega)
  have eD6 : (⟨u, lf, 0⟩ : Dk).did (.settle mn) = ⟨u, lf, mn⟩ := rfl
  rw [eD6] at e7
  have v6 : (⟨u, lf, mn⟩ : Dk).inv := eD6 ▸ did_inv v5 (e := .settle mn) ⟨Nat.zero_le _, by show mn ≤ lf; omega⟩
  obtain ⟨h8, eh8⟩ : ∃ h8, h8 = h7.set d (dko ⟨u, lf, mn⟩) := ⟨_, rfl⟩
  rw [← eh8] at e7
  have hd8 : h8[d]? = some (dko ⟨u, lf, mn⟩) := eh8 ▸ sat hd7
  obtain ⟨hf, ehf⟩ : ∃ hf : Nat, hf = lf / 2 := ⟨_, rfl⟩
  have kdiv : binop .FloorDiv (.int lf) (.int 2) = some (.g (.int hf)) := by
    rw [bn_div ⟨by omega, by omega⟩, ehf]; simp
  have e8 := fun σ => c9 (n := n) (k := hf) (σ := σ) hd8 v6 (show u.length ≤ Big by omega)
  obtain ⟨du, edu⟩ : ∃ du : Nat, du = max hf mn := ⟨_, rfl⟩
  have kmax : biF .max [.int hf, .int mn] = some (.g (.int du)) := by
    rw [bi_maxi, show max (hf : Int) (mn : Int) = (du : Int) by omega]
  have eD7 : (⟨u, lf, mn⟩ : Dk).did (.lose hf) = ⟨u.take du, du, mn⟩ := by
    show (⟨u.take (max mn (min hf u.length)), max mn (min hf u.length), mn⟩ : Dk) = _
    rw [show max mn (min hf u.length) = du by omega]
  rw [eD7] at e8
  obtain ⟨h9, eh9⟩ : ∃ h9, h9 = h8.set d (dko ⟨u.take du, du, mn⟩) := ⟨_, rfl⟩
  rw [← eh9] at e8
  have hd9 : h9[d]? = some (dko ⟨u.take du, du, mn⟩) := eh9 ▸ sat hd8
  have kt := bn_rep (l := [97, 98]) (k := m3) (by simp; omega) (by omega)
  rw [← et] at kt
  have gs1 := gsl_S t lf (by omega)
  have kap := bn_strs (x := S (t.take lf)) (y := S cc) (by simpa using big_line (show (t.take lf).length + cc.length ≤ Big by omega))
  rw [S_app, ← eu] at kap
  have gs2 := gsl_S u du (by omega)
  -- swapped
  obtain ⟨xs, exs⟩ : ∃ xs, xs = rp [120] m6 := ⟨_, rfl⟩
  have lxs : xs.length = m6 := by rw [exs, rp_len]; simp
  have oxs : okc xs := exs ▸ rp_ok (by intro c hc; simp at hc; omega) m6
  have kx := bn_rep (l := [120]) (k := m6) (by simp; omega) (by omega)
  rw [← exs] at kx
  have e9 := fun σ => c11 (n := n + 1) (k := st) (x := xs) (σ := σ) hd9 oxs (by omega) (by omega)
  have eD8 : (⟨u.take du, du, mn⟩ : Dk).did (.swap xs st) = ⟨xs, m6, st⟩ := by
    show (⟨xs, xs.length, st⟩ : Dk) = _
    rw [lxs]
  rw [eD8] at e9
  have v8 : (⟨xs, m6, st⟩ : Dk).inv := ⟨by show st ≤ m6; omega, by show m6 ≤ xs.length; omega, oxs⟩
  obtain ⟨h10, eh10⟩ : ∃ h10, h10 = h9.set d (dko ⟨xs, m6, st⟩) := ⟨_, rfl⟩
  rw [← eh10] at e9
  have hd10 : h10[d]? = some (dko ⟨xs, m6, st⟩) := eh10 ▸ sat hd9
  have e10 := fun σ => c9 (n := n) (k := 0) (σ := σ) hd10 v8 (show xs.length ≤ Big by omega)
  have eD9 : (⟨xs, m6, st⟩ : Dk).did (.lose 0) = ⟨rp [120] st, st, st⟩ := by
    show (⟨xs.take (max st (min 0 xs.length)), max st (min 0 xs.length), st⟩ : Dk) = _
    rw [Nat.zero_min, Nat.max_zero, exs, rp_one, rp_one, List.take_replicate, Nat.min_eq_left (by omega)]
  rw [eD9, show ((0 : Nat) : Int) = 0 from rfl] at e10
  obtain ⟨h11, eh11⟩ : ∃ h11, h11 = h10.set d (dko ⟨rp [120] st, st, st⟩) := ⟨_, rfl⟩
  rw [← eh11] at e10
  have hd11 : h11[d]? = some (dko ⟨rp [120] st, st, st⟩) := eh11 ▸ sat hd10
  have kxs := bn_rep (l := [120]) (k := st) (by simp; omega) (by omega)
  obtain ⟨x, hx⟩ := great_rep (st := st) (mn := mn) (du := du) (by omega) (by omega) (by omega)
  unfold greatG at hx
  refine ⟨h11, ?_, ?_⟩
  · have hb' : ∃ r, b25 = .cons (.par [1, 2] (.cons (.bin .Add (.con (.int 1)) (.call 14 (.cons (.var 0) (.cons (.con (.int 5600)) .nil)) [] .nil)) (.cons (.make 0 .nil [] .nil) .nil))) (.cons (.par [3, 4] (.cons (.call 14 (.cons (.var 0) (.cons (.bin .Add (.bin .Mult (.con (.int 3)) (.var 1)) (.con (.int 1))) .nil)) [] .nil) (.cons (.call 14 (.cons (.var 0) (.cons (.bin .Add (.bin .Mult (.con (.int 6)) (.var 1)) (.con (.int 1))) .nil)) [] .nil) .nil))) (.cons (.for_ (.nm 5) (.rng (.cons (.con (.int 3)) .nil)) lb25) r)) ∧ r = (match b25 with
      | .cons _ (.cons _ (.cons _ r)) => r
      | r => r) := ⟨_, rfl, rfl⟩
    obtain ⟨r, hb', hr'⟩ := hb'
    have a1 := fun σ => att_t (σ := σ) hd5
    have a2 := fun σ => att_y (σ := σ) hd5
    have a3 := fun σ => att_e (σ := σ) hd5
    have a4 := fun σ => att_t (σ := σ) hd9
    have a5 := fun σ => att_y (σ := σ) hd9
    have a6 := fun σ => att_e (σ := σ) hd9
    have a7 := fun σ => att_t (σ := σ) hd11
    have a8 := fun σ => att_y (σ := σ) hd11
    have a9 := fun σ => att_e (σ := σ) hd11
    have q5 := mth "fall" hd5 rfl
    have q6 := mth "put" hd6 rfl
    have q7 := mth "settle" hd7 rfl
    have q8 := mth "lose" hd8 rfl
    have q9 := mth "swap" hd9 rfl
    have q10 := mth "lose" hd10 rfl
    simp [g25, hb', e1, em', em0, k3, e3, k6, e4, hr, hl]
    rw [hr']
    simp only [b25]
    simp [eab, ecc, exx, k3, k6, kt, a1, a2, a3, sz3, q5, q6, q7, q8, q9, q10, List.lookup, e5, kmod, kc, e6, kmin, e7, kdiv, e8, kmax, gs1, kap, gs2, a4, a5, a6, kx, e9, e10, kxs, a7, a8, a9, hx]
  · rw [eh11, eh10, eh9, eh8, eh7, eh6, eh5]
    simp only [List.set_set]
    refine ⟨by simpa using t14.len, fun i o ni e => ?_⟩
    by_cases q : i = d
    · subst q
      exfalso
      have := (List.getElem?_eq_some_iff.mp e).1
      have := t1.len
      omega
    · rw [List.getElem?_set_ne (Ne.symm q)]
      exact t14.keep i o ni e
end K06
set_option Elab.async false
set_option linter.all false
set_option maxRecDepth 100000
set_option maxHeartbeats 4000000
namespace K06
open PySem PySem.Spec PyProof.Rows L2 GI
abbrev D0 : Dk := ⟨[], 0, 0⟩
theorem GoodL.snoc {D : Dk} {ds : List Deed} {e : Deed} (h : GoodL D ds) (g : GoodD (endD D ds) e) : GoodL D (ds ++ [e]) := by
  induction h with
  | nil => exact .cons g .nil
  | cons g1 _ ih => exact .cons g1 (ih g)
theorem GoodL.take {D : Dk} {ds : List Deed} (h : GoodL D ds) (n : Nat) : GoodL D (ds.take n) := by
  induction h generalizing n with
  | nil => rw [List.take_nil]; exact .nil
  | cons g _ ih =>
    cases n with
    | zero => exact .nil
    | succ n => exact .cons g (ih n)
theorem endD_snoc {D : Dk} {ds : List Deed} {e : Deed} : endD D (ds ++ [e]) = (endD D ds).did e := by unfold endD; simp
def ZD (D : Dk) (ds : List Deed) : Prop := ∀ n, (endD D (ds.take n)).t.length ≤ 28
theorem ZD.snoc {D : Dk} {ds : List Deed} {e : Deed} (h : ZD D ds) (z : ((endD D ds).did e).t.length ≤ 28) : ZD D (ds ++ [e]) := by
  intro n
  by_cases hn : n ≤ ds.length
  · rw [List.take_append_of_le_length hn]; exact h n
  · rw [List.take_of_length_le (by simp; omega), endD_snoc]; exact z
theorem ZD.all {D : Dk} {ds : List Deed} (h : ZD D ds) : (endD D ds).t.length ≤ 28 := by
  have := h ds.length
  rwa [List.take_length] at this
theorem D0inv : D0.inv := ⟨Nat.le_refl _, Nat.le_refl _, fun _ z => by cases z⟩
theorem pp_ap (xs : List GV) (v : GV) (h : xs.length < sizeLine) (σ : List Sl) (hh : List GO) (i : Nat) (e : σ[i]? = some (.own (.lst xs))) : upo (.slot i) (bmf .append [v]) ⟨σ, hh⟩ = .ok (.g .non) ⟨σ.set i (.own (.lst (xs ++ [v]))), hh⟩ := upo_slot e (ap_f h)
def lbA : ISs := (.cons (.exp (.bm (.var 1) .append (.cons (.call 18 (.cons (.var 0) (.cons (.var 2) .nil)) [] .nil) .nil))) (.cons (.asg 2 (.call 17 (.cons (.var 2) (.cons (.ix (.var 1) (.un .USub (.con (.int 1)))) .nil)) [] .nil)) .nil))
theorem stepA (n a B : Nat) (j : Int) (ds : List Deed) (x2 y4 v3 : Sl) (h : List GO) (r : List Sl) (hb : BoxAt a B h) (hB : B + 30 ≤ 2 ^ 37) (g : GoodL D0 ds) (z : ZD D0 ds) (hx : HoldsRow (endD D0 ds) x2) (hl : ds.length < 100) :
    ∃ (e : Deed) (x2' : Sl) (h' : List GO), forS T (GI.run T (n + 6)) (.nm 4) lbA (.int j) ⟨.val (.ref a) :: .own (.lst (ds.map dG)) :: x2 :: v3 :: y4 :: r, h⟩ = .ok .nx ⟨.val (.ref a) :: .own (.lst ((ds ++ [e]).map dG)) :: x2' :: v3 :: .val (.int j) :: r, h'⟩ ∧
      GoodL D0 (ds ++ [e]) ∧ ZD D0 (ds ++ [e]) ∧ HoldsRow (endD D0 (ds ++ [e])) x2' ∧ BoxAt a (B + 30) h' ∧ Chg [a] h h' := by
  have hi := g.inv D0inv
  have hBig : Big = 1000000 := rfl
  obtain ⟨e, h', e1, dr⟩ := c18 (n := n + 3) (σ := .val (.ref a) :: .own (.lst (ds.map dG)) :: .val (rG (row (endD D0 ds))) :: v3 :: .val (.int j) :: r) hb hi z.all hB
  have gd : GoodD (endD D0 ds) e := ⟨hi, dr.ok, by have := z.all; omega, dr.x⟩
  have e2 : ∀ s, callF T (GI.run T (n + 6)) 17 [rG (row (endD D0 ds)), dG e] [] [] s = .ok (.g (rG (row ((endD D0 ds).did e)))) s := fun s => c17 (n := n + 4) gd (s := s)
  refine ⟨e, .val (rG (row (endD D0 (ds ++ [e])))), h', ?_, g.snoc gd, z.snoc dr.z, .inr rfl, dr.b, dr.c⟩
  have hz : (ds.map dG).length < sizeLine := by rw [List.length_map, sizeLine_eq]; omega
  have ea := fun σ hh => pp_ap (ds.map dG) (dG e) hz (.val (.ref a) :: .own (.lst (ds.map dG)) :: σ) hh 1 rfl
  rw [endD_snoc, forS_eq, List.map_append, List.map_cons, List.map_nil]
  rcases hx with rfl | rfl
  · simp only [rG] at e1 e2
    simp [lbA, e1, ea, gix_lst, GI.atI_last, e2]
    rfl
  · simp [lbA, e1, ea, rd_rG, gix_lst, GI.atI_last]
    rw [e2]
    simp
/-! ### the losses of a part -/
def lbE : ISs := (.cons (.asg 12 (.call 21 (.cons (.var 7) (.cons (.bin .Mod (.bi .int (.cons (.bin .Add (.var 3) (.var 10)) .nil)) (.con (.int 2))) .nil)) [] .nil)) (.cons (.ife (.or_ (.cmp .Eq (.var 12) (.lst false .nil)) (.not_ (.call 22 (.cons (.var 12) (.cons (.lst false (.cons (.var 11) (.cons (.var 10) .nil))) (.cons (.bin .Mod (.bi .int (.cons (.var 10) .nil)) (.con (.int 2))) .nil))) [] .nil))) (.cons (.ret (.so (.con (.bl false)))) .nil) (.nil)) .nil))
def lbC : ISs := .cons (.for_ (.nm 11) (.seq (.lst false (.cons (.con (.str (Str.ofString "lose"))) (.cons (.con (.str (Str.ofString "fall"))) .nil)))) lbE) .nil
theorem ne_nil (a b : GV) : eqv2 (.lst [a, b]) (.lst []) = some false := eq_len (by simp)
theorem c21m {n t : Nat} {ds : List Deed} (g : GoodL D0 ds) {σ : List Sl} {h : List GO} : callF T (GI.run T (n + 6)) 21 [.lst (ds.map dG), .int ((t : Int) % 2)] [] [] ⟨σ, h⟩ = .ok (.g (.lst [.ref h.length, rG (row (endD D0 ds))])) ⟨σ, h ++ [dko (endD D0 ds)]⟩ := c21 (t := t % 2) g
theorem c21a {n t k : Nat} {ds : List Deed} (g : GoodL D0 ds) {σ : List Sl} {h : List GO} : callF T (GI.run T (n + 6)) 21 [.lst (ds.map dG), .int (((t : Int) + (k : Int)) % 2)] [] [] ⟨σ, h⟩ = .ok (.g (.lst [.ref h.length, rG (row (endD D0 ds))])) ⟨σ, h ++ [dko (endD D0 ds)]⟩ := c21 (t := (t + k) % 2) g
theorem c22m {n d t : Nat} {D : Dk} {e : Deed} {σ : List Sl} {h : List GO} (hd : h[d]? = some (dko D)) (hi : D.inv) (hz : D.t.length + 1000 ≤ Big) (he : (∃ k, e = .lose k) ∨ ∃ k, e = .fall k) : callF T (GI.run T (n + 6)) 22 [.lst [.ref d, rG (row D)], dG e, .int ((t : Int) % 2)] [] [] ⟨σ, h⟩ = .ok (.g (.bl true)) ⟨σ, h.set d (dko (D.did e))⟩ := c22 (t := t % 2) hd hi hz he
theorem stepE (n t k : Nat) (e : Deed) (nm : String) (ds : List Deed) (v0 v1 v2 v4 v5 v6 v8 v9 y11 y12 : Sl) (h : List GO) (g : GoodL D0 ds) (z : (endD D0 ds).t.length ≤ 28) (he : (∃ k, e = .lose k) ∨ ∃ k, e = .fall k) (hn : dG e = .lst [.str (Str.ofString nm), .int k]) :
    ∃ y12' o, forS T (GI.run T (n + 6)) (.nm 11) lbE (.str (Str.ofString nm)) ⟨[v0, v1, v2, .val (.int t), v4, v5, v6, .val (.lst (ds.map dG)), v8, v9, .val (.int k), y11, y12], h⟩ = .ok .nx ⟨[v0, v1, v2, .val (.int t), v4, v5, v6, .val (.lst (ds.map dG)), v8, v9, .val (.int k), .val (.str (Str.ofString nm)), y12'], h ++ [o]⟩ := by
  have hBig : Big = 1000000 := rfl
  have e1 := fun σ => c21a (n := n) (t := t) (k := k) g (σ := σ) (h := h)
  have hd : (h ++ [dko (endD D0 ds)])[h.length]? = some (dko (endD D0 ds)) := by simp
  have e2 := fun σ => c22m (n := n) (t := k) (e := e) (σ := σ) hd (g.inv D0inv) (by omega) he
  have es : ∀ o, (h ++ [dko (endD D0 ds)]).set h.length o = h ++ [o] := fun o => by
    rw [List.set_append_right _ _ (Nat.le_refl _), Nat.sub_self]; rfl
  rw [hn] at e2
  refine ⟨.val (.lst [.ref h.length, rG (row (endD D0 ds))]), dko ((endD D0 ds).did e), ?_⟩
  rw [forS_eq, ← es]
  simp only [es] at e2
  simp [lbE, mod2, e1, ne_nil, sz2, e2]
theorem Chg.cut {a d : Nat} {h h1 h' : List GO} (p : Chg [a] h h1) (q : Chg [a, d] h1 h') (hd : h.length ≤ d) : Chg [a] h h' := by
  refine ⟨Nat.le_trans p.len q.len, fun i o n e => q.keep i o (fun z => ?_) (p.keep i o n e)⟩
  have := (List.getElem?_eq_some_iff.mp e).1
  rcases List.mem_cons.mp z with z | z
  · exact n (by simp [z])
  · have : i = d := by simpa using z
    omega
theorem same_new {o : GO} {s : GS} : same (.new o) o.fz s := rfl
theorem stepC (n t k : Nat) (ds : List Deed) (v0 v1 v2 v4 v5 v6 v8 v9 y10 y11 y12 : Sl) (h : List GO) (g : GoodL D0 ds) (z : (endD D0 ds).t.length ≤ 28) :
    ∃ y11' y12' h', forS T (GI.run T (n + 6)) (.nm 10) lbC (.int k) ⟨[v0, v1, v2, .val (.int t), v4, v5, v6, .val (.lst (ds.map dG)), v8, v9, y10, y11, y12], h⟩ = .ok .nx ⟨[v0, v1, v2, .val (.int t), v4, v5, v6, .val (.lst (ds.map dG)), v8, v9, .val (.int k), y11', y12'], h'⟩ ∧ Chg [] h h' := by
  obtain ⟨p1, o1, e1⟩ := stepE n t k (.lose k) "lose" ds v0 v1 v2 v4 v5 v6 v8 v9 y11 y12 h g z (.inl ⟨k, rfl⟩) rfl
  obtain ⟨p2, o2, e2⟩ := stepE n t k (.fall k) "fall" ds v0 v1 v2 v4 v5 v6 v8 v9 (.val (.str (Str.ofString "lose"))) p1 (h ++ [o1]) g z (.inr ⟨k, rfl⟩) rfl
  refine ⟨.val (.str (Str.ofString "fall")), p2, h ++ [o1] ++ [o2], ?_, (Chg.push (as := [])).trans Chg.push⟩
  have hl : forL (same (.new (.lst [.str (Str.ofString "lose"), .str (Str.ofString "fall")])) (.lst [.str (Str.ofString "lose"), .str (Str.ofString "fall")])) (forS T (GI.run T (n + 6)) (.nm 11) lbE) [.str (Str.ofString "lose"), .str (Str.ofString "fall")] ⟨[v0, v1, v2, .val (.int t), v4, v5, v6, .val (.lst (ds.map dG)), v8, v9, .val (.int k), y11, y12], h⟩ =
      .ok .nx ⟨[v0, v1, v2, .val (.int t), v4, v5, v6, .val (.lst (ds.map dG)), v8, v9, .val (.int k), .val (.str (Str.ofString "fall")), p2], h ++ [o1] ++ [o2]⟩ := by
    have s : ∀ s, same (.new (.lst [.str (Str.ofString "lose"), .str (Str.ofString "fall")])) (.lst [.str (Str.ofString "lose"), .str (Str.ofString "fall")]) s := fun _ => rfl
    rw [forL_cons (s _), e1, bind_ok, forK_nx, forL_cons (s _), e2, bind_ok, forK_nx, forL_nil (s _)]
  have i1 : ∀ l, items (.lst l) = some l := fun _ => rfl
  rw [forS_eq]
  simp [lbC, sz2, i1, hl]
/-! ### a part -/
def lbB : ISs := (.cons (.asg 8 (.call 21 (.cons (.var 7) (.cons (.var 3) .nil)) [] .nil)) (.cons (.ife (.cmp .Eq (.var 8) (.lst false .nil)) (.cons (.ret (.so (.con (.bl false)))) .nil) (.nil)) (.cons (.asg 9 (.bi .len (.cons (.ix (.var 8) (.con (.int 1))) .nil))) (.cons (.for_ (.nm 10) (.rng (.cons (.bin .Add (.var 9) (.con (.int 2))) .nil)) lbC) (.cons (.ife (.or_ (.not_ (.call 23 (.cons (.var 0) (.cons (.call 21 (.cons (.var 7) (.cons (.var 3) .nil)) [] .nil) .nil)) [] .nil)) (.not_ (.call 24 (.cons (.var 0) (.cons (.var 8) .nil)) [] .nil))) (.cons (.ret (.so (.con (.bl false)))) .nil) (.nil)) .nil)))))
theorem stepB (n t a B : Nat) (ds : List Deed) (v1 v2 v4 v5 v6 y7 y8 y9 y10 y11 y12 : Sl) (h : List GO) (hb : BoxAt a B h) (hB : B ≤ 2 ^ 35) (g : GoodL D0 ds) (z : (endD D0 ds).t.length ≤ 28) :
    ∃ z8 z9 y10' y11' y12' h', forS T (GI.run T (n + 7)) (.nm 7) lbB (.lst (ds.map dG)) ⟨[.val (.ref a), v1, v2, .val (.int t), v4, v5, v6, y7, y8, y9, y10, y11, y12], h⟩ = .ok .nx ⟨[.val (.ref a), v1, v2, .val (.int t), v4, v5, v6, .val (.lst (ds.map dG)), z8, z9, y10', y11', y12'], h'⟩ ∧ BoxAt a (B + 200) h' ∧ Chg [a] h h' := by
  obtain ⟨D, eD⟩ : ∃ D, D = endD D0 ds := ⟨_, rfl⟩
  have hi : D.inv := eD ▸ g.inv D0inv
  obtain ⟨r8, er8⟩ : ∃ r8, r8 = h.length := ⟨_, rfl⟩
  have e1 := fun σ => c21 (n := n + 1) (t := t) g (σ := σ) (h := h)
  rw [← eD, ← er8] at e1
  obtain ⟨h1, eh1⟩ : ∃ h1, h1 = h ++ [dko D] := ⟨_, rfl⟩
  rw [← eh1] at e1
  have hr8 : h1[r8]? = some (dko D) := by rw [eh1, er8]; simp
  have hb1 : BoxAt a B h1 := eh1 ▸ hb.push
  have hn : r8 ≠ a := by
    obtain ⟨_, _, _, _, e, _⟩ := hb.ex
    have := (List.getElem?_eq_some_iff.mp e).1
    omega
  obtain ⟨s', eC, hI⟩ := forL_inv (same := same (.g .non) .non) (step := forS T (GI.run T (n + 7)) (.nm 10) lbC) (fun i s => ∃ y10 y11 y12 h', s = ⟨[.val (.ref a), v1, v2, .val (.int t), v4, v5, v6, .val (.lst (ds.map dG)), .val (.lst [.ref r8, rG (row D)]), .val (.int D.t.length), y10, y11, y12], h'⟩ ∧ Chg [] h1 h')
    (xs := (List.range (D.t.length + 2)).map fun k => .int (k : Nat)) (s := ⟨[.val (.ref a), v1, v2, .val (.int t), v4, v5, v6, .val (.lst (ds.map dG)), .val (.lst [.ref r8, rG (row D)]), .val (.int D.t.length), y10, y11, y12], h1⟩) (i := 0) ⟨y10, y11, y12, h1, rfl, Chg.refl⟩ (fun _ _ _ => rfl) (fun j s x hx ⟨y10, y11, y12, h2, es, c2⟩ => by
      obtain ⟨hj, rfl⟩ := range_get hx
      subst es
      obtain ⟨p, q, h3, e3, c3⟩ := stepC (n + 1) t j ds (.val (.ref a)) v1 v2 v4 v5 v6 (.val (.lst [.ref r8, rG (row D)])) (.val (.int D.t.length)) y10 y11 y12 h2 g z
      exact ⟨_, e3, _, _, _, _, rfl, c2.trans c3⟩)
  obtain ⟨q10, q11, q12, h2, es, c2⟩ := hI
  subst es
  have zD : D.t.length ≤ 28 := eD ▸ z
  have hr := rngF_n (s := ⟨[.val (.ref a), v1, v2, .val (.int t), v4, v5, v6, .val (.lst (ds.map dG)), .val (.lst [.ref r8, rG (row D)]), .val (.int D.t.length), y10, y11, y12], h1⟩) (D.t.length + 2) (by omega)
  rw [show ((D.t.length + 2 : Nat) : Int) = (D.t.length : Int) + 2 by omega] at hr
  have c2a : Chg [a] h1 h2 := c2.mono (by simp)
  have hb2 : BoxAt a B h2 := by
    obtain ⟨b0, b1, b2, b3, e, p⟩ := hb1.ex
    exact ⟨b0, b1, b2, b3, c2.keep a _ (by simp) e, p⟩
  have hr82 : h2[r8]? = some (dko D) := c2.keep r8 _ (by simp) hr8
  -- on
  have e2 := fun σ => c21 (n := n + 1) (t := t) g (σ := σ) (h := h2)
  rw [← eD] at e2
  have hd3 : (h2 ++ [dko D])[h2.length]? = some (dko D) := by simp
  have hn3 : h2.length ≠ a := by
    obtain ⟨_, _, _, _, e, _⟩ := hb2.ex
    have := (List.getElem?_eq_some_iff.mp e).1
    omega
  have eh3 : ∀ σ, ∃ h3, callF T (GI.run T (n + 7)) 23 [.ref a, .lst [.ref h2.length, rG (row D)]] [] [] ⟨σ, h2 ++ [dko D]⟩ = .ok (.g (.bl true)) ⟨σ, h3⟩ ∧ BoxAt a (B + 160) h3 ∧ Chg [a, h2.length] (h2 ++ [dko D]) h3 := fun σ => c23 (n := n) (σ := σ) ⟨hd3, hi, hb2.push, hn3⟩ (eD ▸ z) (by omega)
  obtain ⟨h3, e3, hb3, c3⟩ := eh3 [.val (.ref a), v1, v2, .val (.int t), v4, v5, v6, .val (.lst (ds.map dG)), .val (.lst [.ref r8, rG (row D)]), .val (.int D.t.length), q10, q11, q12]
  have c3a : Chg [a] h2 h3 := Chg.cut Chg.push c3 (Nat.le_refl _)
  have hr83 : h3[r8]? = some (dko D) := Chg.at1 c3a hn hr82
  obtain ⟨h4, e4, hb4, c4⟩ := c24 (n := n + 1) (σ := [.val (.ref a), v1, v2, .val (.int t), v4, v5, v6, .val (.lst (ds.map dG)), .val (.lst [.ref r8, rG (row D)]), .val (.int D.t.length), q10, q11, q12]) ⟨hr83, hi, hb3, hn⟩ (eD ▸ z) (by omega)
  refine ⟨.val (.lst [.ref r8, rG (row D)]), .val (.int D.t.length), q10, q11, q12, h4, ?_, hb4.up (by omega), Chg.cut (((Chg.push (o := dko D)).trans (eh1 ▸ c2a)).trans c3a) c4 (by omega)⟩
  rw [forS_eq]
  simp [lbB, e1, ne_nil, gix_lst, rd_rG, len_rG, row_len, hr, eC, e2, e3, e4]
/-! ### the whole -/
theorem gsl_ds (ds : List Deed) (n : Nat) : gsl (.lst (ds.map dG)) none (some (n : Int)) = some (.new (.lst ((ds.take n).map dG))) := by
  show some (EV.new (.lst (cutG (ds.map dG) none (some (n : Int))))) = _
  rw [cut_upto, List.map_take]
theorem r26 (n a B : Nat) (h : List GO) (hb : BoxAt a B h) (hB : B ≤ 2 ^ 34) : ∃ h', GI.run T (n + 8) 26 [.ref a] h = .ok (.bl true) h' ∧ BoxAt a (B + 1000) h' ∧ Chg [a] h h' := by
  have hBig : Big = 1000000 := rfl
  rw [run_at T_f26 rfl]
  obtain ⟨t, h1, e1, p1, b1, t1⟩ := c14 (n := n + 6) (m := 2) (σ := [.val (.ref a), .no, .no, .no, .no, .no, .no, .no, .no, .no, .no, .no, .no]) hb (by omega) (by omega) (by omega)
  obtain ⟨m0, h2, e2, p2, b2, t2⟩ := c14 (n := n + 6) (m := 9) (σ := [.val (.ref a), .own (.lst []), .own (.lst []), .val (.int t), .no, .no, .no, .no, .no, .no, .no, .no, .no]) b1 (by omega) (by omega) (by omega)
  rw [show ((2 : Nat) : Int) = 2 from rfl] at e1
  rw [show ((9 : Nat) : Int) = 9 from rfl] at e2
  obtain ⟨m, em⟩ : ∃ m : Nat, m = 4 + m0 := ⟨_, rfl⟩
  have em' : (4 : Int) + (m0 : Int) = (m : Int) := by omega
  obtain ⟨s', eA, hI⟩ := forL_inv (same := same (.g .non) .non) (step := forS T (GI.run T (n + 7)) (.nm 4) lbA) (fun i s => ∃ ds x2 y4 h', s = ⟨[.val (.ref a), .own (.lst (ds.map dG)), x2, .val (.int t), y4, .no, .no, .no, .no, .no, .no, .no, .no], h'⟩ ∧ GoodL D0 ds ∧ ZD D0 ds ∧ HoldsRow (endD D0 ds) x2 ∧ BoxAt a (B + 2 + 30 * i) h' ∧ Chg [a] h2 h' ∧ ds.length = i ∧ i ≤ m)
    (xs := (List.range m).map fun k => .int (k : Nat)) (s := ⟨[.val (.ref a), .own (.lst []), .own (.lst []), .val (.int t), .no, .no, .no, .no, .no, .no, .no, .no, .no], h2⟩) (i := 0) ⟨[], .own (.lst []), .no, h2, rfl, .nil, (fun n => by rw [List.take_nil]; simp [endD]), .inl rfl, b2, Chg.refl, rfl, Nat.zero_le _⟩ (fun _ _ _ => rfl) (fun j s x hx ⟨ds, x2, y4, h3, es, g, z, hx2, b3, c3, hl, hi⟩ => by
      obtain ⟨hj, rfl⟩ := range_get hx
      subst es
      rw [Nat.zero_add] at b3 hl hi
      obtain ⟨e, x2', h4, e4, g', z', hx', b4, c4⟩ := stepA (n + 1) a (B + 2 + 30 * j) j ds x2 y4 (.val (.int t)) h3 [.no, .no, .no, .no, .no, .no, .no, .no] b3 (by omega) g z hx2 (by omega)
      exact ⟨_, e4, ds ++ [e], x2', _, h4, rfl, g', z', hx', by rw [show B + 2 + 30 * (0 + j + 1) = B + 2 + 30 * j + 30 by omega]; exact b4, c3.trans c4, by simp; omega, by omega⟩)
  obtain ⟨ds, x2, y4, h3, es, g, z, hx2, b3, c3, hl, _⟩ := hI
  subst es
  have hr := rngF_n (s := ⟨[.val (.ref a), .own (.lst []), .own (.lst []), .val (.int t), .no, .no, .no, .no, .no, .no, .no, .no, .no], h2⟩) m (by omega)
  simp only [Nat.zero_add, List.length_map, List.length_range] at b3 hl
  obtain ⟨cu, h4, e4, p4, b4, c4⟩ := c14 (n := n + 6) (m := ds.length + 1) (σ := [.val (.ref a), .own (.lst (ds.map dG)), x2, .val (.int t), y4, .no, .no, .no, .no, .no, .no, .no, .no]) b3 (by omega) (by omega) (by omega)
  rw [show ((ds.length + 1 : Nat) : Int) = (ds.length : Int) + 1 by omega] at e4
  have e5 := fun σ => c21 (n := n + 1) (t := t) g (σ := σ) (h := h4)
  obtain ⟨d0, ed0⟩ : ∃ d0, d0 = h4.length := ⟨_, rfl⟩
  obtain ⟨D, eD⟩ : ∃ D, D = endD D0 ds := ⟨_, rfl⟩
  have hi : D.inv := eD ▸ g.inv D0inv
  obtain ⟨h5, eh5⟩ : ∃ h5, h5 = h4 ++ [dko D] := ⟨_, rfl⟩
  rw [← ed0, ← eD, ← eh5] at e5
  have hd0 : h5[d0]? = some (dko D) := by rw [eh5, ed0]; simp
  have b5 : BoxAt a (B + 2 + 30 * m + 1) h5 := eh5 ▸ b4.push
  have hn : d0 ≠ a := by
    obtain ⟨_, _, _, _, e, _⟩ := b4.ex
    have := (List.getElem?_eq_some_iff.mp e).1
    omega
  have eS := gsl_ds ds cu
  obtain ⟨y8, y9, y10, y11, y12, h6, e6, b6, c6⟩ := stepB n t a (B + 2 + 30 * m + 1) (ds.take cu) (.val (.lst (ds.map dG))) x2 y4 (.val (.int cu)) (.val (.lst [.ref d0, rG (row D)])) .no .no .no .no .no .no h5 b5 (by omega) (g.take cu) (z cu)
  obtain ⟨w8, w9, w10, w11, w12, h7, e7, b7, c7⟩ := stepB n t a (B + 2 + 30 * m + 1 + 200) ds (.val (.lst (ds.map dG))) x2 y4 (.val (.int cu)) (.val (.lst [.ref d0, rG (row D)])) (.val (.lst ((ds.take cu).map dG))) y8 y9 y10 y11 y12 h6 b6 (by omega) g z.all
  have hd7 : h7[d0]? = some (dko D) := Chg.at1 (c6.trans c7) hn hd0
  obtain ⟨P, eP⟩ : ∃ P, P = (ds.take cu).map dG := ⟨_, rfl⟩
  obtain ⟨L, eL⟩ : ∃ L, L = ds.map dG := ⟨_, rfl⟩
  have hloop : forL (same (.new (.lst [.lst P, .lst L])) (.lst [.lst P, .lst L])) (forS T (GI.run T (n + 7)) (.nm 7) lbB) [.lst P, .lst L] ⟨[.val (.ref a), .val (.lst L), x2, .val (.int t), y4, .val (.int cu), .val (.lst [.ref d0, rG (row D)]), .no, .no, .no, .no, .no, .no], h5⟩ =
      .ok .nx ⟨[.val (.ref a), .val (.lst L), x2, .val (.int t), y4, .val (.int cu), .val (.lst [.ref d0, rG (row D)]), .val (.lst L), w8, w9, w10, w11, w12], h7⟩ := by
    have s : ∀ s, same (.new (.lst [.lst P, .lst L])) (.lst [.lst P, .lst L]) s := fun _ => rfl
    rw [← eP, ← eL] at e6
    rw [← eP, ← eL] at e7
    rw [forL_cons (s _), e6, bind_ok, forK_nx, forL_cons (s _), e7, bind_ok, forK_nx, forL_nil (s _)]
  have e8 := fun σ => c20 (n := n + 6) hi (show D.t.length ≤ Big by have := z.all; rw [← eD] at this; omega) (σ := σ) hd7
  refine ⟨h7, ?_, b7.up (by omega), ?_⟩
  · have hb' : b26 = .cons (.par [1, 2, 3] (.cons (.lst false .nil) (.cons (.lst false .nil) (.cons (.call 14 (.cons (.var 0) (.cons (.con (.int 2)) .nil)) [] .nil) .nil)))) (.cons (.for_ (.nm 4) (.rng (.cons (.bin .Add (.con (.int 4)) (.call 14 (.cons (.var 0) (.cons (.con (.int 9)) .nil)) [] .nil)) .nil)) lbA)
      (.cons (.asg 5 (.call 14 (.cons (.var 0) (.cons (.bin .Add (.bi .len (.cons (.var 1) .nil)) (.con (.int 1))) .nil)) [] .nil)) (.cons (.asg 6 (.call 21 (.cons (.var 1) (.cons (.var 3) .nil)) [] .nil)) (.cons (.for_ (.nm 7) (.seq (.lst false (.cons (.sl (.var 1) .no (.so (.var 5))) (.cons (.var 1) .nil)))) lbB)
      (.cons (.ret (.so (.and_ (.cmp .NotEq (.var 6) (.lst false .nil)) (.call 20 (.cons (.ix (.var 6) (.con (.int 0))) (.cons (.ix (.var 6) (.con (.int 1))) .nil)) [] .nil)))) .nil))))) := rfl
    have i1 : ∀ l, items (.lst l) = some l := fun _ => rfl
    rw [← eP, ← eL] at eS
    rw [← eL] at e4 e5 eA
    have zl : L.length = ds.length := by rw [eL, List.length_map]
    simp [g26, hb', e1, e2, em', hr, eA, zl, e4, e5, eS, sz2, i1, hloop, ne_nil, gix_lst, e8]
  · refine ((((t1.trans t2).trans c3).trans c4).trans ?_).trans (c6.trans c7)
    rw [eh5]; exact Chg.push
theorem c26 {n a B : Nat} {h : List GO} {σ : List Sl} (hb : BoxAt a B h) (hB : B ≤ 2 ^ 34) : ∃ h', callF T (GI.run T (n + 8)) 26 [.ref a] [] [] ⟨σ, h⟩ = .ok (.g (.bl true)) ⟨σ, h'⟩ ∧ BoxAt a (B + 1000) h' ∧ Chg [a] h h' := by
  obtain ⟨h', r, p⟩ := r26 n a B h hb hB
  exact ⟨h', by rw [call_at T_f26 rfl rfl rfl, r]; rfl, p⟩
theorem c25 {n a B : Nat} {h : List GO} {σ : List Sl} (hb : BoxAt a B h) (hB : B ≤ 2 ^ 36) : ∃ h', callF T (GI.run T (n + 5)) 25 [.ref a] [] [] ⟨σ, h⟩ = .ok (.g (.bl true)) ⟨σ, h'⟩ ∧ Chg [a] h h' := by
  obtain ⟨h', r, p⟩ := r25 n a B h hb hB
  exact ⟨h', by rw [call_at T_f25 rfl rfl rfl, r]; rfl, p⟩
theorem c12 {n k : Nat} {ns : List Int} {σ : List Sl} {h : List GO} : ∃ z : Int, callF T (GI.run T (n + 1)) 12 [.scr ns, .int k] [] [] ⟨σ, h⟩ = .ok (.g (.int z)) ⟨σ, h⟩ := by
  obtain ⟨z, r⟩ := r12 n ns k h
  exact ⟨z, by rw [call_at T_f12 rfl rfl rfl, r]; rfl⟩
theorem c13 {n : Nat} {z : Int} {σ : List Sl} {h : List GO} : ∃ h', callF T (GI.run T (n + 1)) 13 [.int z] [] [] ⟨σ, h⟩ = .ok (.g (.ref h.length)) ⟨σ, h'⟩ ∧ BoxAt h.length 0 h' := by
  obtain ⟨h', r, p, _⟩ := r13 n z h
  exact ⟨h', by rw [call_at T_f13 rfl rfl rfl, r]; rfl, p⟩
def lb27 : ISs := (.cons (.asg 2 (.call 13 (.cons (.call 12 (.cons (.var 0) (.cons (.var 1) .nil)) [] .nil) .nil) [] .nil)) (.cons (.ife (.or_ (.not_ (.call 26 (.cons (.var 2) .nil) [] .nil)) (.and_ (.cmp .Eq (.var 1) (.con (.int 1))) (.not_ (.call 25 (.cons (.var 2) .nil) [] .nil)))) (.cons (.ret (.so (.con (.bl false)))) .nil) (.nil)) .nil))
theorem step27 (n k : Nat) (ns : List Int) (y1 y2 : Sl) (h : List GO) : ∃ y2' h', forS T (GI.run T (n + 8)) (.nm 1) lb27 (.int k) ⟨[.val (.scr ns), y1, y2], h⟩ = .ok .nx ⟨[.val (.scr ns), .val (.int k), y2'], h'⟩ := by
  obtain ⟨z, e1⟩ := c12 (n := n + 7) (k := k) (ns := ns) (σ := [.val (.scr ns), .val (.int k), y2]) (h := h)
  obtain ⟨h1, e2, b1⟩ := c13 (n := n + 7) (z := z) (σ := [.val (.scr ns), .val (.int k), y2]) (h := h)
  obtain ⟨h2, e3, b2, c2⟩ := c26 (n := n) (σ := [.val (.scr ns), .val (.int k), .val (.ref h.length)]) b1 (by omega)
  obtain ⟨h3, e4, c3⟩ := c25 (n := n + 3) (σ := [.val (.scr ns), .val (.int k), .val (.ref h.length)]) b2 (by omega)
  rw [forS_eq]
  by_cases hk : k = 1
  · subst hk
    refine ⟨.val (.ref h.length), h3, ?_⟩
    simp at e1 e2 e3 e4
    simp [lb27, e1, e2, e3, e4]
  · refine ⟨.val (.ref h.length), h2, ?_⟩
    have hk' : ¬ (k : Int) = 1 := by omega
    simp [lb27, e1, e2, e3, hk, hk']
theorem r27 (n : Nat) (ns : List Int) (hz : ns.length ≤ 63) (h : List GO) : ∃ h', GI.run T (n + 9) 27 [.scr ns] h = .ok (.bl true) h' := by
  rw [run_at T_f27 rfl]
  obtain ⟨m, em⟩ : ∃ m : Nat, m = max 2 (min 4 ns.length) := ⟨_, rfl⟩
  obtain ⟨s', eA, hI⟩ := forL_inv (same := same (.g .non) .non) (step := forS T (GI.run T (n + 8)) (.nm 1) lb27) (fun i s => ∃ y1 y2 h', s = ⟨[.val (.scr ns), y1, y2], h'⟩)
    (xs := (List.range m).map fun k => .int (k : Nat)) (s := ⟨[.val (.scr ns), .no, .no], h⟩) (i := 0) ⟨_, _, _, rfl⟩ (fun _ _ _ => rfl) (fun j s x hx ⟨y1, y2, h3, es⟩ => by
      obtain ⟨hj, rfl⟩ := range_get hx
      subst es
      obtain ⟨y2', h', e⟩ := step27 n j ns y1 y2 h3
      exact ⟨_, e, _, _, _, rfl⟩)
  obtain ⟨y1, y2, h3, es⟩ := hI
  subst es
  have hr := rngF_n (s := ⟨[.val (.scr ns), .no, .no], h⟩) m (by omega)
  have hb' : b27 = .cons (.for_ (.nm 1) (.rng (.cons (.bi .max (.cons (.con (.int 2)) (.cons (.bi .min (.cons (.con (.int 4)) (.cons (.bi .len (.cons (.var 0) .nil)) .nil))) .nil))) .nil)) lb27) (.cons (.ret (.so (.con (.bl true)))) .nil) := rfl
  obtain ⟨q, hq⟩ : ∃ q : Nat, q = min 4 ns.length := ⟨_, rfl⟩
  have k1 : biF .min [.int 4, .int ns.length] = some (.g (.int q)) := by rw [bi_mini, show min (4 : Int) (ns.length : Int) = (q : Int) by omega]
  have k2 : biF .max [.int 2, .int q] = some (.g (.int m)) := by rw [bi_maxi, show max (2 : Int) (q : Int) = (m : Int) by omega]
  refine ⟨h3, ?_⟩
  simp only [g27, hb', List.map_cons, List.map_nil, List.length_cons, List.length_nil, List.replicate, List.cons_append, List.nil_append]
  simp [k1, k2, hr, eA]
theorem hrun (ns : List Int) (h1 : ns.length ≤ 63) (h2 : ∀ z ∈ ns, Builtin.Int.intBits z ≤ 1048576) : ∃ h', GI.run md.T 12 27 [.scr ns] [] = .ok (.bl true) h' := r27 3 ns h1 []
end K06
set_option Elab.async false
set_option linter.all false
set_option maxRecDepth 100000
set_option maxHeartbeats 0
namespace K06
open PySem PySem.Spec PyProof.Rows L2 GI
def loose : List Str := ["AlongError", "InvalidSigns", "InvalidCount", "is_integer", "is_count", "is_signs", "is_between", "Disk", "_law_cell", "_law_box", "_law_take", "_law_some", "_law_with", "_law_behind", "_law_deed", "_law_do", "_law_is", "_law_done", "_law_left_right", "_law_on_right", "_law_swapped_right", "_law_great_right", "_law_right"]
abbrev R : PySem.W.OpenRow := PySem.W.OpenLaw.row PySem.Challenge.rw_allalong_k06_whole_settled_and_swapped
abbrev hk : PySem.W.Hook := He.hookD 6 md.facts md.fn
def ob (s : PySem.W.SharedT) : He.AlD := He.obsDG 6 md.facts md.fn (HandSHeadRun.getT s)
theorem ob_eq (s : PySem.W.SharedT) : ob s = hk.obs s.abs := He.obsDG_eq (HandSHeadRun.getT_eq s)
theorem topRun (w : World) : HandSHeadRun.RunEq R (PySem.W.view R.prog [27]) hk ob 4000 loose w := by
  intro os
  kernel_rfl
end K06
set_option Elab.async false
set_option linter.all false
set_option maxRecDepth 100000
set_option maxHeartbeats 0
namespace K06
open PySem PySem.Spec PyProof.Rows L2 GI
end K06
open PySem PySem.W PySem.Calls PyProof.Rows
theorem PySem.Challenge.cw_allalong_k06_whole_settled_and_swapped_holds : PySem.Challenge.rw_allalong_k06_whole_settled_and_swapped.Holds := by
  w_on; o_law
  refine HandSHeadRun.head_any (r := OpenLaw.row PySem.Challenge.rw_allalong_k06_whole_settled_and_swapped) (q := view (OpenLaw.row PySem.Challenge.rw_allalong_k06_whole_settled_and_swapped).prog [27]) (H := K06.hk) (ob := K06.ob) (M := 4000) (loose := K06.loose) (d := HandSHeadRun.topDef (OpenLaw.row PySem.Challenge.rw_allalong_k06_whole_settled_and_swapped).prog 27) (kwd := []) K06.ob_eq
    (by kernel_rfl) (fun s => by kernel_rfl) K06.topRun (by kernel_rfl) (by kernel_rfl) (by kernel_rfl) (by rfl) (by first | assumption | decide +kernel) (by decide +kernel) ⟨rfl, rfl, rfl, rfl, rfl, by decide +kernel⟩ ?hw ?hc
  case hw => w_witness2
  case hc =>
    exact GI.law_end (m := K06.md) (l := PySem.Challenge.rw_allalong_k06_whole_settled_and_swapped) (x := "script") (li := 27) (n0 := 11) (t := K06.t27) rfl (by kernel_rfl) ⟨rfl, by decide, by decide⟩ rfl rfl rfl rfl (by kernel_rfl) (by kernel_rfl) K06.nmB K06.cks K06.bds K06.hrun
