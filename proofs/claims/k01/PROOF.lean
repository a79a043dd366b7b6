import PyProof.Rows.All
import Wide.All
import OpenK.AllK
import Wide.FinOn
import HandS.ForMost
import HandS.IsInst
import HandS.CallSlots
import HandS.TryMany
import HandS.WordsExc
import HandS.TupAny
import HandS.Deep
import HandS.Conv
import PyProof.StrBlock2
import HandS.TupLe
import KE.KSortTupAny
import PyProof.Rows.ListMulArg
import PyProof.FString5
import HandS.RaiseMore
import HandS.TupLen
import HandS.Replace
import HandS.NoneIn
import HandS.DictTup
import HandS.ExcIs
import HandS.ExcField
import HandS.HotCalls
import KE.KExcIs
import HandS.SortOrd
import HandS.SortRule
import HandS.NamedTupSort
import KE.KDictSum
import KE.KSortKey
import HandS.SortKw
import HandS.Strs
import HandS.SetKeys
import PyProof.DictMoreH
import HandS.ExcInit
import HandS.ExcOwn
import HandS.Defaults
import PySem.Challenge.RW_bothbooks_k01_people
set_option Elab.async false
set_option linter.all false
set_option maxRecDepth 100000
set_option maxHeartbeats 8000000
section
open PySem PySem.W PyProof.Rows
set_option maxHeartbeats 0
open_top both_head for PySem.Challenge.rw_bothbooks_k01_people
end
namespace BB
open PySem PySem.Spec PyProof.Rows L2

/-! values -/
inductive D where
  | non | bl (b : Bool) | int (i : Int) | str (x : Str) | ty (n : String) | fn (n : Nat)
  | tup (l : List D) | ktup (l : List D) | lst (l : List D) | dct (t : Bool) (l : List (D × D)) | ref (i : Nat) | scr (l : List D) | exo (c : Nat) (l : List (Str × D))
/-- a slot of a frame: nothing, a value, a list or dict of its own -/
inductive Slot where
  | no | va (d : D) | ol (l : List D) | od (t : Bool) (l : List (D × D)) | xo (c : Nat) (fs : List (Str × D))
/-- a box of the store -/
inductive Bx where
  | ls (l : List D) | dc (t : Bool) (l : List (D × D)) | ins (c : Nat) (fs : List (Str × D)) | lkl (l : List D) | lkd (t : Bool) (l : List (D × D))
abbrev Sto := List Bx
structure S where
  env : List Slot
  st : Sto
/-- what an expression gives -/
inductive R where
  | va (d : D) | fl (l : List D) | fd (t : Bool) (l : List (D × D)) | own (i : Nat)
inductive Oc (α : Type) where
  | ok (a : α) (s : S) | ex (c : Nat) (fs : List (Str × D)) (s : S) | bad
inductive Fl where
  | nx (s : S) | rt (r : R) (s : S) | bk (s : S) | ct (s : S) | ex (c : Nat) (fs : List (Str × D)) (s : S) | bad
inductive CR where
  | ok (r : R) (st : Sto) | ex (c : Nat) (fs : List (Str × D)) (st : Sto) | bad
/-- what is seen of a result -/
inductive Vw where
  | at (d : D) | ls (l : List D) | dc (t : Bool) (l : List (D × D)) | sc (l : List D) | dl (t : Bool) (l : List (D × D))
def Oc.bind {α β : Type} (o : Oc α) (f : α → S → Oc β) : Oc β := match o with
  | .ok a s => f a s
  | .ex c fs s => .ex c fs s
  | .bad => .bad

def vwBx (i : Nat) : Option Bx → Option Vw
  | some (.ls l) => some (.ls l)
  | some (.dc t l) => some (.dc t l)
  | some (.ins _ _) => some (.at (.ref i))
  | some (.lkl l) => some (.ls l)
  | some (.lkd t l) => some (.dl t l)
  | none => none
def vwSl : Option Slot → Option Vw
  | some (.ol l) => some (.ls l)
  | some (.od t l) => some (.dc t l)
  | _ => none
def view (s : S) : R → Option Vw
  | .va (.lst l) => some (.ls l)
  | .va (.dct t l) => some (.dc t l)
  | .va (.ref i) => vwBx i s.st[i]?
  | .va (.scr l) => some (.sc l)
  | .va (.ktup l) => some (.at (.tup l))
  | .va d => some (.at d)
  | .fl l => some (.ls l)
  | .fd t l => some (.dc t l)
  | .own i => vwSl s.env[i]?
/-- a result kept -/
def keepR : R → Option D
  | .va d => some d
  | .fl l => some (.lst l)
  | .fd t l => some (.dct t l)
  | .own _ => none
def keepRs : List R → Option (List D)
  | [] => some []
  | r :: rs => match keepR r, keepRs rs with
    | some d, some ds => some (d :: ds)
    | _, _ => none

/-! data -/
mutual
def toP : D → Option PyData
  | .non => some .none
  | .bl b => some (.bool b)
  | .int i => some (.int i)
  | .str x => some (.str x)
  | .tup l => match toPs l with
    | some ps => some (.tuple ps)
    | none => none
  | .ktup l => match toPs l with
    | some ps => some (.tuple ps)
    | none => none
  | .lst l => match toPs l with
    | some ps => some (.list ps)
    | none => none
  | _ => none
def toPs : List D → Option (List PyData)
  | [] => some []
  | d :: ds => match toP d, toPs ds with
    | some p, some ps => some (p :: ps)
    | _, _ => none
end
def Vw.toP : Vw → Option PyData
  | .at d => BB.toP d
  | .ls l => match toPs l with
    | some ps => some (.list ps)
    | none => none
  | .dc _ _ => none
  | .dl _ _ => none
  | .sc _ => none
/-- scalars -/
def scalD : D → Option V
  | .non => some .non
  | .bl b => some (.bl b)
  | .int i => some (.int i)
  | .str x => some (.str x)
  | _ => none
def Vw.scal : Vw → Option V
  | .at d => scalD d
  | _ => none
def eqW (a b : Vw) : Option Bool :=
  match a.scal, b.scal with
  | some x, some y => if L2.scal x y = true then some (decide (x = y)) else none
  | _, _ => match a.toP, b.toP with
    | some p, some q => if SeqAt.shaped p = true ∧ SeqAt.shaped q = true then some (PyData.eqv p q) else none
    | _, _ => none
instance (i j : Int) : Decidable (CMul i j) := by unfold CMul; exact inferInstance
instance (i j : Int) : Decidable (CDiv i j) := by unfold CDiv; exact inferInstance
/-- // by a positive divisor of up to 64 bits -/
def CDivB (_ j : Int) : Prop := 0 < j ∧ (j < 1073741824 ∨ j < 18446744073709551616)
instance (i j : Int) : Decidable (CDivB i j) := by unfold CDivB; exact inferInstance
/-- a shift to the left -/
def CShl (i j : Int) : Prop := 0 ≤ j ∧ j ≤ 1000000 ∧ i.natAbs < 18446744073709551616
instance (i j : Int) : Decidable (CShl i j) := by unfold CShl; exact inferInstance
instance (i j : Int) : Decidable (CPow i j) := by unfold CPow; exact inferInstance

def binV (o : Operator) (a b : Vw) : Option R := match o, a, b with
  | .Add, .at (.int i), .at (.int j) => some (.va (.int (i + j)))
  | .Add, .at (.str x), .at (.str y) => if x.length + y.length ≤ sizeLine then some (.va (.str (x ++ y))) else none
  | .Add, .ls x, .ls y => if x.length + y.length ≤ sizeLine then some (.fl (x ++ y)) else none
  | .Add, .at (.tup x), .at (.tup y) => if (0 < x.length ∧ 0 < y.length) ∧ x.length + y.length ≤ sizeLine then some (.va (.tup (x ++ y))) else none
  | .Sub, .at (.int i), .at (.int j) => some (.va (.int (i - j)))
  | .Mult, .at (.int i), .at (.int j) => if CMul i j then some (.va (.int (i * j))) else none
  | .Mult, .at (.str x), .at (.int j) => if 0 ≤ j ∧ j ≤ 16777216 ∧ x.length * j.toNat ≤ 16777216 then some (.va (.str (Txt.mul x j))) else none
  | .Mult, .ls x, .at (.int j) => if 0 ≤ j ∧ j ≤ 1000 ∧ x.length * j.toNat ≤ 1000000 then some (.fl (List.replicate j.toNat x).flatten) else none
  | .FloorDiv, .at (.int i), .at (.int j) => if CDivB i j then some (.va (.int (i / j))) else none
  | .Mod, .at (.int i), .at (.int j) => if 0 < j then some (.va (.int (i % j))) else none
  | .Pow, .at (.int i), .at (.int j) => if CPow i j then some (.va (.int (i ^ j.toNat))) else none
  | .LShift, .at (.int i), .at (.int j) => if CShl i j then some (.va (.int (i * 2 ^ j.toNat))) else none
  | _, _, _ => none
/-- x in y where y is a list or tuple of scalars -/
def flatD (d : D) : Option V := scalD d
def flats : List D → Option (List V)
  | [] => some []
  | d :: ds => match flatD d, flats ds with
    | some v, some vs => if flatV v = true then some (v :: vs) else none
    | _, _ => none
def inW (a b : Vw) : Option Bool := match a, b with
  | .at (.str x), .at (.str z) => match x.cps.toList with
    | [c] => some (decide (c ∈ z.cps.toList))
    | _ => some (!(Builtin.Str.occurrences z x 0 z.length 1).isEmpty)
  | .at d, .at (.tup l) => match flatD d, flats l with
    | some v, some vs => if flatV v = true then some (inV v vs) else none
    | _, _ => none
  | .at d, .ls l => match flatD d, flats l with
    | some v, some vs => if flatV v = true then some (inV v vs) else none
    | _, _ => none
  | _, _ => none
def isW (a b : Vw) : Option Bool := match b with
  | .at .non => match a with
    | .at .non => some true
    | .at _ => some false
    | .ls _ => some false
    | .dc _ _ => some false
    | .dl _ _ => some false
    | .sc _ => none
  | .at (.bl y) => match a with
    | .at (.bl x) => some (decide (x = y))
    | _ => none
  | _ => none
/-- texts only -/
def txD : List D → Option (List Str)
  | [] => some []
  | d :: r => match d, txD r with
    | .str s, some l => some (s :: l)
    | _, _ => none
/-- tuples of texts, in order -/
def leTxt (xs ys : List Str) : Bool := Ob.lexAt (fun j => xs.getD j Str.empty == ys.getD j Str.empty) (fun j => !decide ((ys.getD j Str.empty).cps.toList < (xs.getD j Str.empty).cps.toList)) (decide (xs.length ≤ ys.length)) 0 (min xs.length ys.length)
def cmpV (o : CmpOp) (a b : Vw) : Option Bool := match o with
  | .Eq => eqW a b
  | .NotEq => (eqW a b).map (!·)
  | .In => inW a b
  | .NotIn => (inW a b).map (!·)
  | .Is => isW a b
  | .IsNot => (isW a b).map (!·)
  | .Lt => match a, b with
    | .at (.int i), .at (.int j) => some (decide (i < j))
    | _, _ => none
  | .LtE => match a, b with
    | .at (.int i), .at (.int j) => some (decide (i ≤ j))
    | .at (.tup l), .at (.tup m) => match txD l, txD m with
      | some xs, some ys => some (leTxt xs ys)
      | _, _ => none
    | _, _ => none
  | .Gt => match a, b with
    | .at (.int i), .at (.int j) => some (decide (j < i))
    | _, _ => none
  | .GtE => match a, b with
    | .at (.int i), .at (.int j) => some (decide (j ≤ i))
    | _, _ => none
/-- boxes seen as lists, so deep -/
def unb (st : Sto) : Nat → D → D
  | 0, d => d
  | k + 1, d => match d with
    | .ref i => match st[i]? with
      | some (.ls l) => .lst (l.map (unb st k))
      | some (.lkl l) => .lst (l.map (unb st k))
      | _ => .ref i
    | .tup l => .tup (l.map (unb st k))
    | .ktup l => .ktup (l.map (unb st k))
    | .lst l => .lst (l.map (unb st k))
    | d => d
def Vw.unb (st : Sto) (k : Nat) : Vw → Vw
  | .at d => .at (BB.unb st k d)
  | .ls l => .ls (l.map (BB.unb st k))
  | w => w
def eqP (a b : Option PyData) : Option Bool := match a, b with
  | some p, some q => if SeqAt.shaped p = true ∧ SeqAt.shaped q = true then some (PyData.eqv p q) else none
  | _, _ => none
def eqB (st : Sto) (u v : Vw) : Option Bool := eqP (u.unb st 8).toP (v.unb st 8).toP
/-- p in a list of like things -/
def inP (a b : Option PyData) : Option Bool := match a, b with
  | some p, some (.list ds) => if SeqAt.shaped p = true ∧ SeqAt.shaped (.list ds) = true then some (ds.any fun z => PyData.eqv z p) else none
  | _, _ => none
def inB (st : Sto) (u v : Vw) : Option Bool := inP (u.unb st 8).toP (v.unb st 8).toP
def or2 (a b : Option Bool) : Option Bool := match a with
  | some x => some x
  | none => b
/-- compared, through boxes where need be -/
def cmpS (st : Sto) (o : CmpOp) (u v : Vw) : Option Bool := match o with
  | .Eq => or2 (eqW u v) (eqB st u v)
  | .NotEq => (or2 (eqW u v) (eqB st u v)).map (!·)
  | .In => or2 (inW u v) (inB st u v)
  | .NotIn => (or2 (inW u v) (inB st u v)).map (!·)
  | o => cmpV o u v
/-- t + (), () + t: t itself -/
def tupE (o : Operator) (x y : R) : Option R := match o, x, y with
  | .Add, .va (.tup []), .va (.tup l) => if l.length ≤ sizeLine then some (.va (.tup l)) else none
  | .Add, .va (.tup l), .va (.tup []) => if l.length ≤ sizeLine then some (.va (.tup l)) else none
  | _, _, _ => none
/-- a tuple of the written part is not sliced as a whole -/
def isKt : R → Bool
  | .va (.ktup _) => true
  | _ => false
def unV (o : UnaryOp) (a : Vw) : Option R := match o, a with
  | .USub, .at (.int i) => some (.va (.int (-i)))
  | _, _ => none
/-- a[i] of a list, a tuple, a text -/
def ixV (a b : Vw) : Option D := match b with
  | .at (.int i) => match a with
    | .ls l => atI l i
    | .sc l => atI l i
    | .at (.tup l) => atI l i
    | .at (.str z) => if z.length ≤ sizeLine then (atI z.cps.toList i).map fun c => .str ⟨#[c]⟩ else none
    | _ => none
  | _ => none
def cutD (xs : List D) (lo hi : Option Int) : List D := (xs.drop (HT.sIx xs.length 0 lo)).take (HT.sIx xs.length xs.length hi - HT.sIx xs.length 0 lo)
def kslOk (x : R) (lo hi : Option Int) : Bool := match x with
  | .va (.ktup l) => decide ((cutD l lo hi).length ≠ l.length)
  | _ => true
def slV (a : Vw) (lo hi : Option Int) : Option R := match a with
  | .ls l => some (.fl (cutD l lo hi))
  | .sc l => some (.fl (cutD l lo hi))
  | .at (.tup l) => some (.va (.tup (cutD l lo hi)))
  | .at (.str z) => if z.length ≤ sizeLine then some (.va (.str (cutS z lo hi))) else none
  | _ => none
end BB

namespace BB
open PySem PySem.Spec PyProof.Rows L2

/-- built-in functions and types that are called -/
inductive Bi where
  | len | int | str | abs | max | min | sum | all | any | list | tuple | isi | ord | sorted | set
/-- methods of built-in types -/
inductive Mt where
  | count | split | join | index | replace | upper | startswith | endswith | lcount
/-- targets: a name, or a tuple of names -/
inductive Tg where
  | nm (i : Nat) (x : Str) (p : Pos)
  | tp (l : List (Nat × Str × Pos)) (k : Nat) (p : Pos)

/-- how a thing is walked -/
inductive Wk where
  | seq | keys | vals | items | enum
mutual
inductive C where
  | bx (c : C)
  | dnw (t : Bool) (p : Pos)
  | fld (o : C) (f : Str) (p : Pos)
  | meth (o : C) (m : Str) (pa : Pos) (es : CL) (p : Pos)
  | mtd (o : C) (m : Str) (pa : Pos) (a : C) (p : Pos)
  | mtk (o : C) (m : Str) (pa : Pos) (a : C) (x : Str) (pk : Pos) (b : C) (p : Pos)
  | dctp (c : C) (px p : Pos)
  | dctt (c : C) (px p : Pos)
  | lset (c : C) (px p2 q p : Pos)
  | lkeys (c : C) (px p : Pos)
  | inb (c : C) (px p : Pos)
  | dpop1 (o k : C) (pa p : Pos)
  | dpop2 (o k d : C) (pa p : Pos)
  | new (c : Nat) (x : Str) (px : Pos) (es : CL) (p : Pos)
  | pop (o : C) (i : CO) (pa p : Pos)
  | srt (n : Nat) (c : C) (px p : Pos)
  | srti (c : C) (pa pc px p : Pos)
  | srtk (k : Nat) (c : C) (n : Nat) (x : Str) (pk pv px p : Pos)
  | lcl (elt : C) (tg : Tg) (w : Wk) (c : C) (pa pc : Pos) (ifs : CL) (sc : Scope) (own : List (Str × Nat)) (p : Pos)
  | xfl (i : Nat) (x : Str) (px : Pos) (f : Str) (p : Pos)
  | var (i : Nat) (x : Str) (p : Pos)
  | fz (i : Nat) (x : Str) (p : Pos)
  | mv (i : Nat) (x : Str) (p : Pos)
  | cint (n : Int) (k : Nat) (p : Pos)
  | cbl (b : Bool) (k : Nat) (p : Pos)
  | cnon (k : Nat) (p : Pos)
  | cstr (x : Str) (k : Nat) (p : Pos)
  | glo (n : Nat) (x : Str) (p : Pos)
  | bty (n : String) (x : Str) (p : Pos)
  | tup (es : CL) (k : Nat) (p : Pos)
  | lst (es : CL) (p : Pos)
  | dct (ps : CP) (p : Pos)
  | bin (o : Operator) (a b : C) (p : Pos)
  | un (o : UnaryOp) (a : C) (p : Pos)
  | cmp (o : CmpOp) (a b : C) (p : Pos)
  | chain (o o' : CmpOp) (a b c : C) (p : Pos)
  | and_ (a : C) (es : CL) (p : Pos)
  | or_ (a : C) (es : CL) (p : Pos)
  | not_ (a : C) (p : Pos)
  | ife (t a b : C) (p : Pos)
  | call (n : Nat) (x : Str) (px : Pos) (es : CL) (p : Pos)
  | bi (b : Bi) (px : Pos) (es : CL) (p : Pos)
  | mt (m : Mt) (o : C) (pa : Pos) (es : CL) (p : Pos)
  | get2 (o a b : C) (pa p : Pos)
  | get1 (o a : C) (pa p : Pos)
  | setd (o a b : C) (pa p : Pos)
  | ix (a b : C) (p : Pos)
  | dix (a b : C) (p : Pos)
  | din (neg : Bool) (a b : C) (p : Pos)
  | sl (a : C) (lo hi : CO) (ps p : Pos)
  | fnv (n : Nat) (x : Str) (p : Pos)
  | rvt (a : C) (k : Nat) (p1 p2 p3 p : Pos)
  | calv (i : Nat) (x : Str) (px : Pos) (es : CL) (p : Pos)
  | isx (i : Nat) (x : Str) (px pf : Pos) (n : Nat) (y : Str) (py p : Pos)
  | isxb (i : Nat) (x : Str) (px pf : Pos) (y : Str) (py p : Pos)
  | isxt (i : Nat) (x : Str) (px pf : Pos) (l : List (Nat × Str × Pos)) (k : Nat) (pt p : Pos)
  | hcal (n : Nat) (f : Str) (pf : Pos) (i : Nat) (x : Str) (px p : Pos)
  | lme (b : Bool) (o a : C) (pa p : Pos)
  | lc (elt : C) (tg : Tg) (it : CI) (ifs : CL) (sc : Scope) (own : List (Str × Nat)) (p : Pos)
inductive CL where
  | nil | cons (c : C) (cs : CL)
inductive CP where
  | nil | cons (k v : C) (r : CP)
inductive CO where
  | no | so (c : C)
inductive CI where
  | sq (c : C) | rng1 (a : C) (px p : Pos) | rng2 (a b : C) (px p : Pos) | enu (c : C) (px p : Pos) | zip (a b : C) (px p : Pos)
end
mutual
inductive CS where
  | set (i : Nat) (x : Str) (px : Pos) (c : C) (p : Pos)
  | seto (i : Nat) (x : Str) (px : Pos) (c : C) (p : Pos)
  | unp (l : List (Nat × Str × Pos)) (k : Nat) (pt : Pos) (c : C) (p : Pos)
  | app (i : Nat) (x : Str) (px pa : Pos) (c : C) (pc p : Pos)
  | expr (c : C) (p : Pos)
  | rev (i : Nat) (x : Str) (px pa pc p : Pos)
  | ret (c : C) (p : Pos)
  | ifs (t : C) (a b : CB) (p : Pos)
  | for_ (tg : Tg) (it : CI) (body : CB) (p : Pos)
  | while_ (t : C) (body : CB) (p : Pos)
  | ret0 (p : Pos)
  | swp2 (i : Nat) (x : Str) (px : Pos) (j : Nat) (y : Str) (py : Pos) (kt : Nat) (pt : Pos) (a b : C) (k2 : Nat) (pt2 p : Pos)
  | pass (p : Pos)
  | sfld (o : C) (f : Str) (po : Pos) (c : C) (p : Pos)
  | sput (o k : C) (po : Pos) (c : C) (p : Pos)
  | mapp (o : C) (pa : Pos) (c : C) (pc p : Pos)
  | mext (o : C) (pa : Pos) (c : C) (pc p : Pos)
  | mclr (o : C) (pa pc p : Pos)
  | raisx (n : Nat) (x : Str) (px : Pos) (c : C) (pc p : Pos)
  | forl (tg : Tg) (w : Wk) (c : C) (pa pc : Pos) (body : CB) (p : Pos)
  | setl (i : Nat) (x : Str) (px : Pos) (elt : C) (tg : Tg) (w : Wk) (c : C) (pa pc : Pos) (ifs : CL) (sc : Scope) (own : List (Str × Nat)) (q p : Pos)
  | wild (s : Stmt)
  | tokm (c : CS)
  | rep (i : Nat) (x : Str) (px : Pos) (j : Nat) (y : Str) (py : Pos) (c1 c2 : Str) (k1 k2 : Nat) (q1 q2 pa pc p : Pos)
  | raise_ (n : Nat) (x : Str) (px : Pos) (m : Str) (j : Nat) (pm pc p : Pos)
  | try_ (b : CB) (hs : CH) (p : Pos)
inductive CB where
  | nil | cons (c : CS) (cs : CB)
inductive CH where
  | nil | cons (n : Nat) (x : Str) (px : Pos) (c : CS) (su : CB) (p : Pos) (r : CH) | as_ (n : Nat) (x : Str) (px : Pos) (i : Nat) (y : Str) (c : CS) (su : CB) (p : Pos) (r : CH)
end

/-! the text again -/
def Bi.name : Bi → Str
  | .len => "len" | .int => "int" | .str => "str" | .abs => "abs" | .max => "max" | .min => "min" | .sum => "sum" | .all => "all" | .any => "any"
  | .list => "list" | .tuple => "tuple" | .isi => "isinstance" | .ord => "ord" | .sorted => "sorted" | .set => "set"
def Bi.notT : Bi → Bool
  | .tuple => false
  | _ => true
def Mt.name : Mt → Str
  | .count => "count" | .split => "split" | .join => "join" | .index => "index" | .replace => "replace" | .upper => "upper"
  | .startswith => "startswith" | .endswith => "endswith" | .lcount => "count"
def upNs : List (Nat × Str × Pos) → List Expr
  | [] => []
  | (_, x, p) :: r => .Name x p :: upNs r
def Tg.up : Tg → Expr
  | .nm _ x p => .Name x p
  | .tp l k p => .Tuple (upNs l) k p
def wkUp (w : Wk) (e : Expr) (pa pc : Pos) : Expr := match w with
  | .seq => e
  | .keys => e
  | .vals => .Call (.Attribute e "values" pa) [] [] pc
  | .items => .Call (.Attribute e "items" pa) [] [] pc
  | .enum => .Call (.Name "enumerate" pa) [e] [] pc
mutual
def C.up : C → Expr
  | .bx c => c.up
  | .dnw _ p => .Dict [] [] p
  | .fld o f p => .Attribute o.up f p
  | .meth o m pa es p => .Call (.Attribute o.up m pa) es.up [] p
  | .mtd o m pa a p => .Call (.Attribute o.up m pa) [a.up] [] p
  | .mtk o m pa a x pk b p => .Call (.Attribute o.up m pa) [a.up] [⟨some x, b.up, pk⟩] p
  | .dctp c px p => .Call (.Name "dict" px) [c.up] [] p
  | .dctt c px p => .Call (.Name "dict" px) [c.up] [] p
  | .lset c px p2 q p => .Call (.Name "len" px) [.Call (.Name "set" p2) [c.up] [] q] [] p
  | .lkeys c px p => .Call (.Name "list" px) [c.up] [] p
  | .inb c px p => .Call (.Name "int" px) [c.up] [] p
  | .dpop1 o k pa p => .Call (.Attribute o.up "pop" pa) [k.up] [] p
  | .dpop2 o k d pa p => .Call (.Attribute o.up "pop" pa) [k.up, d.up] [] p
  | .new _ x px es p => .Call (.Name x px) es.up [] p
  | .pop o i pa p => .Call (.Attribute o.up "pop" pa) (match i.up with | some e => [e] | none => []) [] p
  | .srt _ c px p => .Call (.Name "sorted" px) [c.up] [] p
  | .srti c pa pc px p => .Call (.Name "sorted" px) [.Call (.Attribute c.up "items" pa) [] [] pc] [] p
  | .srtk _ c _ x pk pv px p => .Call (.Name "sorted" px) [c.up] [⟨some "key", .Name x pv, pk⟩] p
  | .lcl elt tg w c pa pc ifs sc _ p => .ListComp elt.up [⟨tg.up, wkUp w c.up pa pc, ifs.up, 0⟩] sc p
  | .xfl _ x px f p => .Attribute (.Name x px) f p
  | .var _ x p => .Name x p
  | .fz _ x p => .Name x p
  | .mv _ x p => .Name x p
  | .cint n k p => .Constant (.int n) k p
  | .cbl b k p => .Constant (.bool b) k p
  | .cnon k p => .Constant .none k p
  | .cstr x k p => .Constant (.str x) k p
  | .glo _ x p => .Name x p
  | .bty _ x p => .Name x p
  | .tup es k p => .Tuple es.up k p
  | .lst es p => .List es.up p
  | .dct ps p => .Dict ps.upK ps.upV p
  | .bin o a b p => .BinOp a.up o b.up p
  | .un o a p => .UnaryOp o a.up p
  | .cmp o a b p => .Compare a.up [o] [b.up] p
  | .chain o o' a b c p => .Compare a.up [o, o'] [b.up, c.up] p
  | .and_ a es p => .BoolOp .And (a.up :: es.up) p
  | .or_ a es p => .BoolOp .Or (a.up :: es.up) p
  | .not_ a p => .UnaryOp .Not a.up p
  | .ife t a b p => .IfExp t.up a.up b.up p
  | .call _ x px es p => .Call (.Name x px) es.up [] p
  | .bi b px es p => .Call (.Name b.name px) es.up [] p
  | .mt m o pa es p => .Call (.Attribute o.up m.name pa) es.up [] p
  | .get2 o a b pa p => .Call (.Attribute o.up "get" pa) [a.up, b.up] [] p
  | .get1 o a pa p => .Call (.Attribute o.up "get" pa) [a.up] [] p
  | .setd o a b pa p => .Call (.Attribute o.up "setdefault" pa) [a.up, b.up] [] p
  | .ix a b p => .Subscript a.up b.up p
  | .dix a b p => .Subscript a.up b.up p
  | .din n a b p => .Compare a.up [if n = true then .NotIn else .In] [b.up] p
  | .sl a lo hi ps p => .Subscript a.up (.Slice lo.up hi.up none ps) p
  | .fnv _ x p => .Name x p
  | .rvt a k p1 p2 p3 p => .Subscript a.up (.Slice none none (some (.UnaryOp .USub (.Constant (.int 1) k p1) p2)) p3) p
  | .calv _ x px es p => .Call (.Name x px) es.up [] p
  | .isx _ x px pf _ y py p => .Call (.Name "isinstance" pf) [.Name x px, .Name y py] [] p
  | .isxb _ x px pf y py p => .Call (.Name "isinstance" pf) [.Name x px, .Name y py] [] p
  | .isxt _ x px pf l k pt p => .Call (.Name "isinstance" pf) [.Name x px, .Tuple (upNs l) k pt] [] p
  | .hcal _ f pf _ x px p => .Call (.Name f pf) [.Name x px] [] p
  | .lme b o a pa p => .Call (.Attribute o.up (if b = true then "count" else "index") pa) [a.up] [] p
  | .lc elt tg it ifs sc _ p => .ListComp elt.up [⟨tg.up, it.up, ifs.up, 0⟩] sc p
def CL.up : CL → List Expr
  | .nil => []
  | .cons c cs => c.up :: cs.up
def CP.upK : CP → List (Option Expr)
  | .nil => []
  | .cons k _ r => some k.up :: r.upK
def CP.upV : CP → List Expr
  | .nil => []
  | .cons _ v r => v.up :: r.upV
def CO.up : CO → Option Expr
  | .no => none
  | .so c => some c.up
def CI.up : CI → Expr
  | .sq c => c.up
  | .rng1 a px p => .Call (.Name "range" px) [a.up] [] p
  | .rng2 a b px p => .Call (.Name "range" px) [a.up, b.up] [] p
  | .enu c px p => .Call (.Name "enumerate" px) [c.up] [] p
  | .zip a b px p => .Call (.Name "zip" px) [a.up, b.up] [] p
end
mutual
def CS.up : CS → Stmt
  | .set _ x px c p => .Assign [.Name x px] c.up p
  | .seto _ x px c p => .Assign [.Name x px] c.up p
  | .unp l k pt c p => .Assign [.Tuple (upNs l) k pt] c.up p
  | .app _ x px pa c pc p => .Expr (.Call (.Attribute (.Name x px) "append" pa) [c.up] [] pc) p
  | .expr c p => .Expr c.up p
  | .rev _ x px pa pc p => .Expr (.Call (.Attribute (.Name x px) "reverse" pa) [] [] pc) p
  | .ret c p => .Return (some c.up) p
  | .ifs t a b p => .If t.up a.up b.up p
  | .for_ tg it b p => .For tg.up it.up b.up [] p
  | .while_ t b p => .While t.up b.up [] p
  | .ret0 p => .Return none p
  | .swp2 _ x px _ y py kt pt a b k2 pt2 p => .Assign [.Tuple [.Name x px, .Name y py] kt pt] (.Tuple [a.up, b.up] k2 pt2) p
  | .pass p => .Pass p
  | .sfld o f po c p => .Assign [.Attribute o.up f po] c.up p
  | .sput o k po c p => .Assign [.Subscript o.up k.up po] c.up p
  | .mapp o pa c pc p => .Expr (.Call (.Attribute o.up "append" pa) [c.up] [] pc) p
  | .mclr o pa pc p => .Expr (.Call (.Attribute o.up "clear" pa) [] [] pc) p
  | .mext o pa c pc p => .Expr (.Call (.Attribute o.up "extend" pa) [c.up] [] pc) p
  | .raisx _ x px c pc p => .Raise (some (.Call (.Name x px) [c.up] [] pc)) none p
  | .forl tg w c pa pc b p => .For tg.up (wkUp w c.up pa pc) b.up [] p
  | .setl _ x px elt tg w c pa pc ifs sc _ q p => .Assign [.Name x px] (.ListComp elt.up [⟨tg.up, wkUp w c.up pa pc, ifs.up, 0⟩] sc q) p
  | .wild s => s
  | .tokm c => c.up
  | .rep _ x px _ y py c1 c2 k1 k2 q1 q2 pa pc p => .Assign [.Name x px] (.Call (.Attribute (.Name y py) "replace" pa) [.Constant (.str c1) k1 q1, .Constant (.str c2) k2 q2] [] pc) p
  | .raise_ _ x px m j pm pc p => .Raise (some (.Call (.Name x px) [.Constant (.str m) j pm] [] pc)) none p
  | .try_ b hs p => .Try b.up hs.up [] [] p
def CB.up : CB → List Stmt
  | .nil => []
  | .cons c cs => c.up :: cs.up
def CH.up : CH → List ExceptHandler
  | .nil => []
  | .cons _ x px c su p r => .ExceptHandler (some (.Name x px)) none (c.up :: su.up) p :: r.up
  | .as_ _ x px _ y c su p r => .ExceptHandler (some (.Name x px)) (some y) (c.up :: su.up) p :: r.up
end

/-! the run -/
def revS (z : Str) : Str := ⟨z.cps.toList.reverse.toArray⟩
structure FnD where
  ps : Nat
  ns : Nat
  body : CB
structure Prog where
  fns : List FnD
  cst : List (Str × D)
  cls : List Str
  sub : Nat → Nat → Bool
  own : List Str := []
  mth : Nat → Str → Option Nat := fun _ _ => none
  ini : Nat → Option Nat := fun _ => none
  fldOk : Nat → Str → Bool := fun _ _ => false
  xin : Nat → Option (Str × Option Nat) := fun _ => none
  /-- the last parameter is None where it lacks -/
  dfl : Nat → Option Str := fun _ => none
  /-- defs that are called with a caught error alone -/
  hfs : List FnD := []
def intD : D → Option Int
  | .int i => some i
  | _ => none
def intsD : List D → Option (List Int)
  | [] => some []
  | d :: ds => match intD d, intsD ds with
    | some i, some is => some (i :: is)
    | _, _ => none
def blD : D → Option Bool
  | .bl i => some i
  | _ => none
def blsD : List D → Option (List Bool)
  | [] => some []
  | d :: ds => match blD d, blsD ds with
    | some i, some is => some (i :: is)
    | _, _ => none
def strD : D → Option Str
  | .str i => some i
  | _ => none
def strsD : List D → Option (List Str)
  | [] => some []
  | d :: ds => match strD d, strsD ds with
    | some i, some is => some (i :: is)
    | _, _ => none
/-- the name of the type of a value -/
def tyW : Vw → Option String
  | .at .non => some "NoneType"
  | .at (.bl _) => some "bool"
  | .at (.int _) => some "int"
  | .at (.str _) => some "str"
  | .at (.tup _) => some "tuple"
  | .ls _ => some "list"
  | .dc _ _ => some "dict"
  | _ => none
/-- isinstance of built-in types -/
def isiW (t u : String) : Bool := decide (t = u) || (decide (t = "bool") && decide (u = "int"))
def biV (b : Bi) (l : List Vw) : Option R := match b, l with
  | .len, [.ls l] => some (.va (.int l.length))
  | .len, [.sc l] => some (.va (.int l.length))
  | .len, [.at (.tup l)] => some (.va (.int l.length))
  | .len, [.at (.str z)] => if z.length ≤ sizeLine then some (.va (.int z.length)) else none
  | .len, [.dc _ l] => some (.va (.int l.length))
  | .int, [.at (.int i)] => some (.va (.int i))
  | .int, [.at (.bl k)] => some (.va (.int (if k then 1 else 0)))
  | .int, [.at (.str x)] => match PySem.intText? x with
    | some n => if x.length ≤ 640 then some (.va (.int n)) else none
    | none => none
  | .str, [.at .non] => some (.va (.str "None"))
  | .str, [.at (.bl b)] => some (.va (.str (if b then "True" else "False")))
  | .str, [.at (.int i)] => if i.natAbs.log2 < 1920 then some (.va (.str (toString i))) else none
  | .str, [.at (.str x)] => some (.va (.str x))
  | .abs, [.at (.int i)] => some (.va (.int (if i < 0 then -i else i)))
  | .max, [.at (.int i), .at (.int j)] => some (.va (.int (if j > i then j else i)))
  | .min, [.at (.int i), .at (.int j)] => some (.va (.int (if j < i then j else i)))
  | .sum, [.ls l] => (intsD l).map fun is => .va (.int is.sum)
  | .all, [.ls l] => (blsD l).map fun is => .va (.bl (is.all id))
  | .any, [.ls l] => (blsD l).map fun is => .va (.bl (is.any id))
  | .list, [.ls l] => some (.fl l)
  | .list, [.at (.tup l)] => some (.fl l)
  | .tuple, [.ls l] => some (.va (.tup l))
  | .tuple, [.at (.tup l)] => some (.va (.tup l))
  | .isi, [a, .at (.ty u)] => if u ∈ ["str", "int", "bool", "tuple", "list", "dict"] then (tyW a).map fun t => .va (.bl (isiW t u)) else none
  | .ord, [.at (.str x)] => if x.length = 1 then some (.va (.int (x.cps.getD 0 0 : Nat))) else none
  | _, _ => none
def mtV (m : Mt) (o : Vw) (l : List Vw) : Option R := match m, o, l with
  | .count, .at (.str a), [.at (.str b)] => some (.va (.int (Txt.count a b)))
  | .split, .at (.str a), [.at (.str b)] => if (b.length == 0) = false ∧ a.length + 2 ≤ sizeLine then some (.fl ((Txt.split a b).map .str)) else none
  | .join, .at (.str a), [.ls l] => match strsD l with
    | some ys => if (ys.map (·.length)).sum + ys.length * a.length ≤ 16777216 then some (.va (.str (Txt.join a ys))) else none
    | none => none
  | .upper, .at (.str a), [] => if a.length ≤ 5592405 then some (.va (.str (Txt.upper a))) else none
  | .startswith, .at (.str a), [.at (.str b)] => some (.va (.bl (Txt.startswith a b)))
  | .endswith, .at (.str a), [.at (.str b)] => some (.va (.bl (Txt.endswith a b)))
  | .index, .at (.str a), [.at (.str b)] => match Builtin.Str.occurrences a b 0 a.length 1 with
    | i :: _ => some (.va (.int (i : Nat)))
    | [] => none
  | _, _, _ => none
def lsW : Option Vw → Bool
  | some (.ls _) => true
  | _ => false
/-- l.count(d), l.index(d), flat items -/
def lmeV (b : Bool) (u v : Option Vw) : Option R := match u, v with
  | some (.ls l), some (.at d) => match flatD d, flats l with
    | some w, some ws => if flatV w = true then (if b = true then some (.va (.int (ws.countP fun z => eqV z w : Nat))) else match ws.findIdx? fun z => eqV z w with
      | some j => some (.va (.int (j : Nat)))
      | none => none) else none
    | _, _ => none
  | _, _ => none
/-- a key of a dict -/
def keyD : D → Option Key
  | .int i => some (.inl i)
  | .str x => some (.inr x)
  | _ => none
def keysD : List D → Option (List Key)
  | [] => some []
  | d :: ds => match keyD d, keysD ds with
    | some k, some ks => some (k :: ks)
    | _, _ => none
def dkey : D → Option (Sum Key (List Key))
  | .tup l => (keysD l).map .inr
  | d => (keyD d).map .inl
/-- a key of a dict of such keys -/
def keyT (t : Bool) (d : D) : Option (Sum Key (List Key)) := match dkey d with
  | some (.inl k) => if t = false then some (.inl k) else none
  | some (.inr k) => if t = true then some (.inr k) else none
  | none => none
/-- what a dict holds at a key -/
def dget (k : Sum Key (List Key)) (l : List (D × D)) : Option D := (l.find? fun p => decide (dkey p.1 = some k)).map (·.2)
def dput (kd : D) (k : Sum Key (List Key)) (v : D) (l : List (D × D)) : List (D × D) :=
  if (l.any fun p => decide (dkey p.1 = some k)) = true then l.map (fun p => if dkey p.1 = some k then (p.1, v) else p) else l ++ [(kd, v)]
/-- a display -/
def dputs : List (D × D) → List (D × D) → Option (List (D × D))
  | acc, [] => some acc
  | acc, (k, v) :: r => match keyD k with
    | some q => dputs (dput k (.inl q) v acc) r
    | none => none
def pairD : D → Option (D × D)
  | .tup [a, b] => some (a, b)
  | .ktup [a, b] => some (a, b)
  | _ => none
def pairsD : List D → Option (List (D × D))
  | [] => some []
  | d :: ds => match pairD d, pairsD ds with
    | some p, some ps => some (p :: ps)
    | _, _ => none
/-- dict(l) of a list of pairs -/
def dctpV (v : Option Vw) : Option R := match v with
  | some (.ls l) => match pairsD l with
    | some q => (dputs [] q).map (.fd false)
    | none => none
  | _ => none
/-- the same where the keys are tuples -/
def dputsT : List (D × D) → List (D × D) → Option (List (D × D))
  | acc, [] => some acc
  | acc, (k, v) :: r => match dkey k with
    | some (.inr q) => dputsT (dput k (.inr q) v acc) r
    | _ => none
def dstep (a : List Str) (x : Str) : List Str := if x ∈ a then a else a ++ [x]
def ddS (l : List Str) : List Str := l.foldl dstep []
def lsetV (v : Option Vw) : Option R := match v with
  | some (.ls l) => match strsD l with
    | some xs => if xs.length ≤ 4000 then some (.va (.int ((ddS xs).length : Nat))) else none
    | none => none
  | _ => none
def lkeysV (v : Option Vw) : Option R := match v with
  | some (.dc false l) => some (.fl (l.map (·.1)))
  | _ => none
def dcttV (v : Option Vw) : Option R := match v with
  | some (.ls l) => match pairsD l with
    | some q => (dputsT [] q).map (.fd true)
    | none => none
  | _ => none
/-- int(b) of a truth -/
def inbV (r : R) (s : S) : Oc R := match r with
  | .va (.bl b) => .ok (.va (.int (if b = true then 1 else 0))) s
  | _ => .bad
def keepPs : List (R × R) → Option (List (D × D))
  | [] => some []
  | (a, b) :: rs => match keepR a, keepR b, keepPs rs with
    | some d, some e, some ds => some ((d, e) :: ds)
    | _, _, _ => none
def views (s : S) : List R → Option (List Vw)
  | [] => some []
  | r :: rs => match view s r, views s rs with
    | some v, some vs => some (v :: vs)
    | _, _ => none
def opt {α : Type} (o : Option α) (s : S) : Oc α := match o with
  | some a => .ok a s
  | none => .bad
def setE (s : S) (i : Nat) (x : Slot) : S := ⟨s.env.set i x, s.st⟩
def bindN : List (Nat × Str × Pos) → List D → S → Option S
  | [], [], s => some s
  | (i, _, _) :: r, d :: ds, s => bindN r ds (setE s i (.va d))
  | _, _, _ => none
def bindT (t : Tg) (d : D) (s : S) : Option S := match t with
  | .nm i _ _ => some (setE s i (.va d))
  | .tp l _ _ => match d with
    | .tup ds => bindN l ds s
    | _ => none
def wipeE (s : S) : List Nat → S
  | [] => s
  | i :: r => setE (wipeE s r) i .no
def enumD : Nat → List D → List D
  | _, [] => []
  | n, d :: ds => .tup [.int n, d] :: enumD (n + 1) ds
def zipD : List D → List D → List D
  | a :: as, b :: bs => .tup [a, b] :: zipD as bs
  | _, _ => []
def rngD (lo : Int) : Nat → List D
  | 0 => []
  | n + 1 => .int lo :: rngD (lo + 1) n
def small62 (j : Int) : Bool := decide (-(2 ^ 62) ≤ j) && decide (j < 2 ^ 62)
/-- the items that a for walks: a list or a tuple is kept as it stands -/
def sqItems (s : S) (r : R) : Option (List D) := match r with
  | .own _ => none
  | .va (.ref _) => none
  | _ => match view s r with
    | some (.ls l) => some l
    | some (.at (.tup l)) => some l
    | some (.at (.str z)) => some (z.cps.toList.map fun c => .str ⟨#[c]⟩)
    | _ => none
/-- the items that are unpacked -/
def unpItems (s : S) (r : R) : Option (List D) := match r with
  | .own _ => none
  | .va (.ref _) => none
  | _ => match view s r with
    | some (.ls l) => some l
    | some (.at (.tup l)) => some l
    | _ => none
/-- the turns of a comprehension -/
def lcTurns (b : D → S → Oc (Option D)) : List D → List D → S → Oc (List D)
  | [], acc, s => .ok acc s
  | d :: ds, acc, s => match b d s with
    | .ok none s1 => lcTurns b ds acc s1
    | .ok (some y) s1 => if acc.length < sizeLine then lcTurns b ds (acc ++ [y]) s1 else .bad
    | _ => .bad
/-- the turns of a for -/
def forTurns (b : D → S → Fl) : List D → S → Fl
  | [], s => .nx s
  | d :: ds, s => match b d s with
    | .nx s1 => forTurns b ds s1
    | .ct s1 => forTurns b ds s1
    | .bk s1 => .nx s1
    | f => f
/-- the turns of a while, so many at most -/
def whTurns (t : S → Oc Bool) (b : S → Fl) : Nat → S → Fl
  | 0, _ => .bad
  | n + 1, s => match t s with
    | .bad => .bad
    | .ex c fs s1 => .ex c fs s1
    | .ok false s1 => .nx s1
    | .ok true s1 => match b s1 with
      | .nx s2 => whTurns t b n s2
      | .ct s2 => whTurns t b n s2
      | .bk s2 => .nx s2
      | f => f
/-- a dict, locked or not -/
def dcV : Option Vw → Option (Bool × List (D × D))
  | some (.dc t l) => some (t, l)
  | some (.dl t l) => some (t, l)
  | _ => none
/-- fields -/
def fget (f : Str) : List (Str × D) → Option D
  | [] => none
  | (g, x) :: r => if f = g then some x else fget f r
def fput (f : Str) (d : D) : List (Str × D) → List (Str × D)
  | [] => [(f, d)]
  | (g, x) :: r => if g = f then (g, d) :: r else (g, x) :: fput f d r
def setB (s : S) (i : Nat) (b : Bx) : S := ⟨s.env, s.st.set i b⟩
/-- a fresh thing gets a box -/
def bxR (r : R) (s : S) : Oc R := match r with
  | .fl l => .ok (.va (.ref s.st.length)) ⟨s.env, s.st ++ [.ls l]⟩
  | .fd t l => .ok (.va (.ref s.st.length)) ⟨s.env, s.st ++ [.dc t l]⟩
  | .va d => .ok (.va d) s
  | .own _ => .bad
/-- the box that a value is -/
def bxOf (x : R) (s : S) : Option (Nat × Bx) := match x with
  | .va (.ref i) => (s.st[i]?).map fun b => (i, b)
  | _ => none
def fld1 (G : Prog) (f : Str) (b : Option (Nat × Bx)) (s : S) : Oc R := match b with
  | some (_, .ins c fs) => if G.fldOk c f = true then opt ((fget f fs).map .va) s else .bad
  | _ => .bad
def fldR (G : Prog) (f : Str) (x : R) (s : S) : Oc R := fld1 G f (bxOf x s) s
def mthOf (G : Prog) (m : Str) (b : Option (Nat × Bx)) : Option Nat := match b with
  | some (_, .ins c fs) => match fget m fs with
    | none => G.mth c m
    | some _ => none
  | _ => none
def sfldF (G : Prog) (f : Str) (d : D) (b : Option (Nat × Bx)) (s : S) : Fl := match b with
  | some (i, .ins c fs) => if G.fldOk c f = true ∧ fs.length < 1000 then .nx (setB s i (.ins c (fput f d fs))) else .bad
  | _ => .bad
/-- d[k] = v, xs[i] = v, what the thing becomes -/
def putB (kd : Option D) (v : D) (b : Bx) : Option Bx := match b, kd with
  | .dc t l, some k => match keyT t k with
    | some q => if l.length < sizeLine then some (.dc t (dput k q v l)) else none
    | none => none
  | .ls l, some (.int j) => match ixN l.length j with
    | some n => some (.ls (l.set n v))
    | none => none
  | _, _ => none
def sl2b (x : Slot) : Option Bx := match x with
  | .ol l => some (.ls l)
  | .od t l => some (.dc t l)
  | _ => none
def b2sl (b : Bx) : Option Slot := match b with
  | .ls l => some (.ol l)
  | .dc t l => some (.od t l)
  | _ => none
/-- the thing x becomes another -/
def chg (f : Bx → Option Bx) (x : R) (s : S) : Option S := match x with
  | .va (.ref i) => match s.st[i]? with
    | some b => (f b).map fun b' => setB s i b'
    | none => none
  | .own i => match s.env[i]? with
    | some y => match sl2b y with
      | some b => match f b with
        | some b' => (b2sl b').map fun y' => setE s i y'
        | none => none
      | none => none
    | none => none
  | _ => none
def nxO (o : Option S) : Fl := match o with
  | some s => .nx s
  | none => .bad
def appB (d : Option D) (b : Bx) : Option Bx := match b, d with
  | .ls l, some d => if l.length < sizeLine then some (.ls (l ++ [d])) else none
  | _, _ => none
def extB (v : Option Vw) (b : Bx) : Option Bx := match b, v with
  | .ls l, some (.ls m) => if l.length + m.length ≤ sizeLine then some (.ls (l ++ m)) else none
  | _, _ => none
/-- a list of its own -/
def isL (x : R) (s : S) : Bool := match x with
  | .va (.ref i) => match s.st[i]? with
    | some (.ls _) => true
    | _ => false
  | .own i => match s.env[i]? with
    | some (.ol _) => true
    | _ => false
  | _ => false
def nlk (r : R) (s : S) : Bool := match r with
  | .va (.ref i) => match s.st[i]? with
    | some (.lkl _) => false
    | _ => true
  | _ => true
def popB (j : Option Int) (b : Bx) : Option Bx := match b with
  | .ls l => match ixN l.length (j.getD (-1)) with
    | some n => some (.ls (l.eraseIdx n))
    | none => none
  | _ => none
def popV (j : Option Int) (v : Option Vw) : Option D := match v with
  | some (.ls l) => if l.length ≤ sizeLine then atI l (j.getD (-1)) else none
  | _ => none
def clrB : Bx → Option Bx
  | .ls _ => some (.ls [])
  | _ => none
/-- a dict of ints or texts, not locked -/
def dkV : Option Vw → Option (List (D × D))
  | some (.dc false l) => some l
  | _ => none
def dropD (q : Key) (l : List (D × D)) : List (D × D) := l.filter fun p => decide (dkey p.1 ≠ some (.inl q))
def dropB (q : Key) : Bx → Option Bx
  | .dc false l => some (.dc false (dropD q l))
  | _ => none
def keyO : Option D → Option Key
  | some d => keyD d
  | none => none
def dpopR (x y : R) (d : Option R) (s : S) : Oc R := match dkV (view s x), keyO (keepR y) with
  | some l, some q => match dget (.inl q) l with
    | some v => match chg (dropB q) x s with
      | some s1 => .ok (.va v) s1
      | none => .bad
    | none => match d with
      | some r => .ok r s
      | none => .bad
  | _, _ => .bad
def popR (x : R) (j : Option Int) (s : S) : Oc R := match popV j (view s x), chg (popB j) x s with
  | some d, some s1 => .ok (.va d) s1
  | _, _ => .bad
/-- the order of ints, texts, tuples that begin by these -/
abbrev KI := Int ⊕ List Nat
def kit1 : D → Option KI
  | .int i => some (.inl i)
  | .str x => some (.inr x.cps.toList)
  | _ => none
def kitN : Nat → List D → List KI
  | 0, _ => []
  | _ + 1, [] => []
  | n + 1, d :: ds => match kit1 d with
    | some x => x :: kitN n ds
    | none => []
def skey : Nat → D → List KI
  | 0, d => (kit1 d).toList
  | n + 1, .tup l => kitN (n + 1) l
  | _ + 1, _ => []
def isI : KI → Bool
  | .inl _ => true
  | .inr _ => false
def tlen : D → Nat
  | .tup l => l.length
  | _ => 0
/-- such a list can be sorted by its first n parts (0: it is of ints, or of texts) -/
def okSrt (n : Nat) (l : List D) : Bool := (l.all fun d => decide ((skey n d).length = max n 1)) && (l.all fun a => l.all fun b => decide ((skey n a).map isI = (skey n b).map isI)) &&
  (decide (n = 0) || decide (l.map (skey n)).Nodup || l.all fun d => decide (tlen d = n))
def ltS (n : Nat) (a b : D) : Bool := lexLt itemOrd (skey n a) (skey n b)
def insR {α : Type} (lt : α → α → Bool) (y : α) : List α → List α
  | [] => [y]
  | x :: r => if lt y x = true then y :: x :: r else x :: insR lt y r
def srtL {α : Type} (lt : α → α → Bool) (l : List α) : List α := l.foldl (fun acc y => insR lt y acc) []
/-- how a walk is told -/
def pairT : D × D → D
  | (k, v) => .tup [k, v]
/-- a thing is locked -/
def lkb : Bx → Option Bx
  | .ls l => some (.lkl l)
  | .dc t l => some (.lkd t l)
  | _ => none
def ulb : Bx → Option Bx
  | .lkl l => some (.ls l)
  | .lkd t l => some (.dc t l)
  | _ => none
def wkB (w : Wk) (b : Bx) : Option (List D) := match w, b with
  | .seq, .lkl l => some l
  | .seq, .lkd _ l => some (l.map (·.1))
  | .vals, .lkd false l => some (l.map (·.2))
  | .items, .lkd _ l => some (l.map pairT)
  | .enum, .lkl l => some (enumD 0 l)
  | _, _ => none
def wkR (w : Wk) (r : R) (s : S) : Option (List D) := match bxOf r s with
  | some (_, b) => wkB w b
  | none => none
def lkS (r : R) (s : S) : Option (S × Option Nat) := match bxOf r s with
  | some (i, b) => match lkb b with
    | some b' => some (setB s i b', some i)
    | none => (ulb b).map fun _ => (s, none)
  | none => none
def unlS (o : Option Nat) (s : S) : Option S := match o with
  | none => some s
  | some i => match s.st[i]? with
    | some b => (ulb b).map fun b' => setB s i b'
    | none => none
def unlR (o : Option Nat) (ys : List D) (s : S) : Oc R := match unlS o s with
  | some s1 => .ok (.fl ys) s1
  | none => .bad
def unlF (o : Option Nat) (f : Fl) : Fl := match f with
  | .nx s => nxO (unlS o s)
  | .rt r s => match unlS o s with
    | some s1 => .rt r s1
    | none => .bad
  | .ex c fs s => .ex c fs s
  | _ => .bad
/-- an exception with a field -/
def raisF (G : Prog) (n : Nat) (r : R) (s : S) : Fl := match keepR r, G.xin n with
  | some d, some (f, k) => match k with
    | none => .ex n [(f, d)] s
    | some m => match d with
      | .str x => if x.length + m ≤ sizeLine then .ex n [(f, d)] s else .bad
      | _ => .bad
  | _, _ => .bad
def xfl1 (G : Prog) (f : Str) (x : Option Slot) (s : S) : Oc R := match x with
  | some (.xo c fs) => if (G.xin c).map (·.1) = some f then opt ((fget f fs).map .va) s else .bad
  | _ => .bad
def whFuel : Nat := 1000000
def asB (o : Oc R) : Oc Bool := o.bind fun r s => match r with
  | .va (.bl b) => .ok b s
  | _ => .bad
section
variable (G : Prog) (cal : Nat → List D → Sto → CR)
def doCall (n : Nat) (ds : List D) (s : S) : Oc R := match cal n ds s.st with
  | .ok r st => .ok r ⟨s.env, st⟩
  | .ex c fs st => .ex c fs ⟨s.env, st⟩
  | .bad => .bad
/-- a call with the caught error alone -/
def hotR (r : CR) (s : S) : Oc R := match r with
  | .ok r st => .ok r ⟨s.env, st⟩
  | _ => .bad
/-- a call of a method, of an __init__ -/
def methK (n : Nat) (x : R) (rs : List R) (s : S) : Oc R := match x, keepRs rs with
  | .va d, some ds => doCall cal n (d :: ds) s
  | _, _ => .bad
def newR (c : Nat) (rs : List R) (s : S) : Oc R := match keepRs rs, G.ini c with
  | some ds, some n => match cal n (.ref s.st.length :: ds) (s.st ++ [.ins c []]) with
    | .ok (.va .non) st => .ok (.va (.ref s.st.length)) ⟨s.env, st⟩
    | .ex e fs st => .ex e fs ⟨s.env, st⟩
    | _ => .bad
  | _, _ => .bad
/-- sorted -/
def srt1 (n : Nat) (l : List D) (s : S) : Oc R := if okSrt n l = true then .ok (.fl (srtL (ltS n) l)) s else .bad
def srtR (n : Nat) (v : Option Vw) (s : S) : Oc R := match v with
  | some (.ls l) => srt1 n l s
  | some (.dc _ l) => srt1 n (l.map (·.1)) s
  | _ => .bad
def srtiR (v : Option Vw) (s : S) : Oc R := match v with
  | some (.dc _ l) => srt1 1 (l.map pairT) s
  | _ => .bad
/-- sorted by a key: the keys -/
def keysOf (cal : Nat → List D → Sto → CR) (n : Nat) : List D → Sto → Option (List D × Sto)
  | [], st => some ([], st)
  | d :: ds, st => match cal n [d] st with
    | .ok (.va k) st' => match keysOf cal n ds st' with
      | some (ks, st2) => some (k :: ks, st2)
      | none => none
    | _ => none
def srtkR (cal : Nat → List D → Sto → CR) (k n : Nat) (v : Option Vw) (s : S) : Oc R := match v with
  | some (.ls l) => match keysOf cal n l s.st with
    | some (ks, st) => if okSrt k ks = true then .ok (.fl ((srtL (fun a b => ltS k a.1 b.1) (ks.zip l)).map (·.2))) ⟨s.env, st⟩ else .bad
    | none => .bad
  | _ => .bad
mutual
def ev : C → S → Oc R
  | .bx c, s => (ev c s).bind bxR
  | .dnw t _, s => .ok (.fd t []) s
  | .fld o f _, s => (ev o s).bind (fldR G f)
  | .meth o m _ es _, s => (ev o s).bind fun x s1 => match mthOf G m (bxOf x s1) with
    | some n => (evL es s1).bind (methK cal n x)
    | none => .bad
  | .mtd o m _ a _, s => (ev o s).bind fun x s1 => match mthOf G m (bxOf x s1) with
    | some n => if (G.dfl n).isSome = true then (ev a s1).bind fun r1 s2 => methK cal n x [r1, .va .non] s2 else .bad
    | none => .bad
  | .mtk o m _ a kw _ b _, s => (ev o s).bind fun x s1 => match mthOf G m (bxOf x s1) with
    | some n => if G.dfl n = some kw then (ev a s1).bind fun r1 s2 => (ev b s2).bind fun r2 s3 => methK cal n x [r1, r2] s3 else .bad
    | none => .bad
  | .dpop1 o k _ _, s => (ev o s).bind fun x s1 => if (dkV (view s1 x)).isSome = true then (ev k s1).bind fun y s2 => dpopR x y none s2 else .bad
  | .dpop2 o k d _ _, s => (ev o s).bind fun x s1 => if (dkV (view s1 x)).isSome = true then (ev k s1).bind fun y s2 => (ev d s2).bind fun z s3 => dpopR x y (some z) s3 else .bad
  | .dctp c _ _, s => (ev c s).bind fun r s1 => opt (dctpV (view s1 r)) s1
  | .dctt c _ _, s => (ev c s).bind fun r s1 => opt (dcttV (view s1 r)) s1
  | .lset c _ _ _ _, s => (ev c s).bind fun r s1 => opt (lsetV (view s1 r)) s1
  | .lkeys c _ _, s => (ev c s).bind fun r s1 => opt (lkeysV (view s1 r)) s1
  | .inb c _ _, s => (ev c s).bind fun r s1 => inbV r s1
  | .new c _ _ es _, s => (evL es s).bind (newR G cal c)
  | .pop o i _ _, s => (ev o s).bind fun x s1 => if isL x s1 = true then (evO i s1).bind (popR x) else .bad
  | .srt n c _ _, s => (ev c s).bind fun r s1 => srtR n (view s1 r) s1
  | .srti c _ _ _ _, s => (ev c s).bind fun r s1 => srtiR (view s1 r) s1
  | .srtk k c n _ _ _ _ _, s => (ev c s).bind fun r s1 => srtkR cal k n (view s1 r) s1
  | .lcl elt tg w c _ _ ifs _ own _, s => match ev c s with
    | .ok r _ => match lkS r s with
      | some (s0, u) => (ev c s0).bind fun r1 s1 => (opt (wkR w r1 s1) s1).bind fun l s1 =>
        (lcTurns (fun d s => match bindT tg d s with
        | none => .bad
        | some s1 => (evIfs ifs s1).bind fun t s2 => if t = true then (ev elt s2).bind fun r s3 => (match keepR r with
            | some y => .ok (some y) (wipeE s3 (own.map (·.2)))
            | none => .bad) else .ok none (wipeE s2 (own.map (·.2)))) l [] (wipeE s1 (own.map (·.2)))).bind (unlR u)
      | none => .bad
    | _ => .bad
  | .xfl i _ _ f _, s => xfl1 G f s.env[i]? s
  | .var i _ _, s => match s.env[i]? with
    | some (.va d) => .ok (.va d) s
    | some (.ol _) => .ok (.own i) s
    | some (.od _ _) => .ok (.own i) s
    | _ => .bad
  | .fz i _ _, s => match s.env[i]? with
    | some (.va d) => .ok (.va d) s
    | some (.ol l) => .ok (.va (.lst l)) (setE s i (.va (.lst l)))
    | some (.od t l) => .ok (.va (.dct t l)) (setE s i (.va (.dct t l)))
    | _ => .bad
  | .mv i _ _, s => match s.env[i]? with
    | some (.va d) => .ok (.va d) s
    | some (.ol l) => .ok (.fl l) (setE s i .no)
    | some (.od t l) => .ok (.fd t l) (setE s i .no)
    | _ => .bad
  | .cint n _ _, s => .ok (.va (.int n)) s
  | .cbl b _ _, s => .ok (.va (.bl b)) s
  | .cnon _ _, s => .ok (.va .non) s
  | .cstr x _ _, s => .ok (.va (.str x)) s
  | .glo n _ _, s => match G.cst[n]? with
    | some (_, d) => .ok (.va d) s
    | none => .bad
  | .bty n _ _, s => .ok (.va (.ty n)) s
  | .tup es _ _, s => (evL es s).bind fun rs s1 => match keepRs rs with
    | some ds => if ds.length ≤ sizeLine then .ok (.va (.tup ds)) s1 else .bad
    | none => .bad
  | .lst es _, s => (evL es s).bind fun rs s1 => match keepRs rs with
    | some ds => if ds.length ≤ sizeLine then .ok (.fl ds) s1 else .bad
    | none => .bad
  | .dct ps _, s => (evP ps s).bind fun l s1 => match keepPs l with
    | some q => if 0 < q.length ∧ q.length ≤ 15 then opt ((dputs [] q).map (.fd false)) s1 else .bad
    | none => .bad
  | .bin o a b _, s => (ev a s).bind fun x s1 => (ev b s1).bind fun y s2 => match tupE o x y with
    | some r => .ok r s2
    | none => match view s2 x, view s2 y with
      | some u, some v => opt (binV o u v) s2
      | _, _ => .bad
  | .un o a _, s => (ev a s).bind fun x s1 => match view s1 x with
    | some u => opt (unV o u) s1
    | _ => .bad
  | .cmp o a b _, s => (ev a s).bind fun x s1 => (ev b s1).bind fun y s2 => match view s2 x, view s2 y with
    | some u, some v => opt ((cmpS s2.st o u v).map fun t => .va (.bl t)) s2
    | _, _ => .bad
  | .chain o o' a b c _, s => (ev a s).bind fun x s1 => (ev b s1).bind fun y s2 => match view s2 x, view s2 y with
    | some u, some v => match cmpV o u v with
      | some true => (ev c s2).bind fun z s3 => match view s3 y, view s3 z with
        | some v, some w => opt ((cmpV o' v w).map fun t => .va (.bl t)) s3
        | _, _ => .bad
      | some false => .ok (.va (.bl false)) s2
      | none => .bad
    | _, _ => .bad
  | .and_ a es _, s => (asB (ev a s)).bind fun t s1 => if t = true then evAnd es s1 else .ok (.va (.bl false)) s1
  | .or_ a es _, s => (asB (ev a s)).bind fun t s1 => if t = true then .ok (.va (.bl true)) s1 else evOr es s1
  | .not_ a _, s => (asB (ev a s)).bind fun t s1 => .ok (.va (.bl (!t))) s1
  | .ife t a b _, s => (asB (ev t s)).bind fun t s1 => if t = true then ev a s1 else ev b s1
  | .call n _ _ es _, s => (evL es s).bind fun rs s1 => match keepRs rs with
    | some ds => doCall cal n ds s1
    | none => .bad
  | .bi b _ es _, s => (evL es s).bind fun rs s1 => match views s1 rs with
    | some vs => if rs.any isKt = false ∨ b.notT = true then opt (biV b vs) s1 else .bad
    | none => .bad
  | .mt m o _ es _, s => (ev o s).bind fun x s1 => match x with
    | .va (.str a) => (evL es s1).bind fun rs s2 => match views s2 rs with
      | some vs => opt (mtV m (.at (.str a)) vs) s2
      | _ => .bad
    | _ => .bad
  | .get1 o a _ _, s => (ev o s).bind fun x s1 => match dcV (view s1 x) with
    | some _ => (ev a s1).bind fun y s2 => match dcV (view s2 x), keepR y with
      | some (t, l), some k => match keyT t k with
        | some q => .ok (.va ((dget q l).getD .non)) s2
        | none => .bad
      | _, _ => .bad
    | _ => .bad
  | .setd o a b _ _, s => (ev o s).bind fun x s1 => match dcV (view s1 x) with
    | some _ => (ev a s1).bind fun y s2 => (ev b s2).bind fun z s3 => match view s3 x, keepRs [y, z] with
      | some (.dc t l), some [k, d] => match keyT t k with
        | some q => if l.length < sizeLine then (match dget q l with
          | some v => .ok (.va v) s3
          | none => match chg (putB (some k) d) x s3 with
            | some s4 => .ok (.va d) s4
            | none => .bad) else .bad
        | none => .bad
      | _, _ => .bad
    | _ => .bad
  | .get2 o a b _ _, s => (ev o s).bind fun x s1 => match dcV (view s1 x) with
    | some _ => (ev a s1).bind fun y s2 => (ev b s2).bind fun z s3 => match dcV (view s3 x), keepRs [y, z] with
      | some (t, l), some [k, d] => match keyT t k with
        | some q => .ok (.va ((dget q l).getD d)) s3
        | none => .bad
      | _, _ => .bad
    | _ => .bad
  | .ix a b _, s => (ev a s).bind fun x s1 => (ev b s1).bind fun y s2 => match view s2 x, view s2 y with
    | some u, some v => opt ((ixV u v).map .va) s2
    | _, _ => .bad
  | .dix a b _, s => (ev a s).bind fun x s1 => (ev b s1).bind fun y s2 => match dcV (view s2 x), keepR y with
    | some (t, l), some k => match keyT t k with
      | some q => opt ((dget q l).map .va) s2
      | none => .bad
    | _, _ => .bad
  | .din n a b _, s => (ev a s).bind fun x s1 => (ev b s1).bind fun y s2 => match keepR x, dcV (view s2 y) with
    | some k, some (t, l) => match keyT t k with
      | some q => .ok (.va (.bl (if n = true then !(dget q l).isSome else (dget q l).isSome))) s2
      | none => .bad
    | _, _ => .bad
  | .fnv n _ _, s => .ok (.va (.fn n)) s
  | .rvt a _ _ _ _ _, s => (ev a s).bind fun x s1 => match view s1 x with
    | some (.at (.tup l)) => .ok (.va (.tup l.reverse)) s1
    | some (.at (.str z)) => if z.length ≤ sizeLine then .ok (.va (.str (revS z))) s1 else .bad
    | _ => .bad
  | .calv i _ _ es _, s => match s.env[i]? with
    | some (.va (.fn n)) => if (G.fns[n]?).isSome = true then (evL es s).bind fun rs s1 => match keepRs rs with
      | some ds => doCall cal n ds s1
      | none => .bad
      else .bad
    | _ => .bad
  | .isx i _ _ _ n _ _ _, s => match s.env[i]? with
    | some (.xo c _) => if (G.cls[c]?).isSome = true then .ok (.va (.bl (G.sub c n))) s else .bad
    | _ => .bad
  | .isxb i _ _ _ _ _ _, s => match s.env[i]? with
    | some (.xo c _) => if (G.cls[c]?).isSome = true then .ok (.va (.bl true)) s else .bad
    | _ => .bad
  | .isxt i _ _ _ l _ _ _, s => match s.env[i]? with
    | some (.xo c _) => if (G.cls[c]?).isSome = true then .ok (.va (.bl (l.any fun t => G.sub c t.1))) s else .bad
    | _ => .bad
  | .hcal n _ _ i _ _ _, s => match s.env[i]? with
    | some (.xo c fs) => if (G.fns[n]?).isNone = true then hotR (cal n [.exo c fs] s.st) s else .bad
    | _ => .bad
  | .lme b o a _ _, s => (ev o s).bind fun x s1 => if lsW (view s1 x) = true then (ev a s1).bind fun y s2 => opt (lmeV b (view s2 x) (view s2 y)) s2 else .bad
  | .sl a lo hi _ _, s => (ev a s).bind fun x s1 => (evO lo s1).bind fun l s2 => (evO hi s2).bind fun h s3 => match view s3 x with
    | some u => if kslOk x l h = true then opt (slV u l h) s3 else .bad
    | none => .bad
  | .lc elt tg it ifs _ own _, s => (evI it s).bind fun l s1 =>
      (lcTurns (fun d s => match bindT tg d s with
        | none => .bad
        | some s1 => (evIfs ifs s1).bind fun t s2 => if t = true then (ev elt s2).bind fun r s3 => (match keepR r with
            | some y => .ok (some y) (wipeE s3 (own.map (·.2)))
            | none => .bad) else .ok none (wipeE s2 (own.map (·.2)))) l [] (wipeE s1 (own.map (·.2)))).bind fun ys s2 => .ok (.fl ys) s2
def evL : CL → S → Oc (List R)
  | .nil, s => .ok [] s
  | .cons c cs, s => (ev c s).bind fun r s1 => (evL cs s1).bind fun rs s2 => .ok (r :: rs) s2
def evP : CP → S → Oc (List (R × R))
  | .nil, s => .ok [] s
  | .cons k v r, s => (ev k s).bind fun a s1 => (ev v s1).bind fun b s2 => (evP r s2).bind fun rs s3 => .ok ((a, b) :: rs) s3
def evAnd : CL → S → Oc R
  | .nil, s => .bad
  | .cons c .nil, s => ev c s
  | .cons c (.cons d ds), s => (asB (ev c s)).bind fun t s1 => if t = true then evAnd (.cons d ds) s1 else .ok (.va (.bl false)) s1
def evOr : CL → S → Oc R
  | .nil, s => .bad
  | .cons c .nil, s => ev c s
  | .cons c (.cons d ds), s => (asB (ev c s)).bind fun t s1 => if t = true then .ok (.va (.bl true)) s1 else evOr (.cons d ds) s1
def evIfs : CL → S → Oc Bool
  | .nil, s => .ok true s
  | .cons c .nil, s => asB (ev c s)
  | .cons _ (.cons _ _), _ => .bad
def evO : CO → S → Oc (Option Int)
  | .no, s => .ok none s
  | .so c, s => (ev c s).bind fun r s1 => match r with
    | .va (.int i) => .ok (some i) s1
    | _ => .bad
def evI : CI → S → Oc (List D)
  | .sq c, s => (ev c s).bind fun r s1 => opt (sqItems s1 r) s1
  | .rng1 a _ _, s => (ev a s).bind fun r s1 => match r with
    | .va (.int j) => if small62 j = true then .ok (rngD 0 j.toNat) s1 else .bad
    | _ => .bad
  | .rng2 a b _ _, s => (ev a s).bind fun r s1 => (ev b s1).bind fun r2 s2 => match r, r2 with
    | .va (.int i), .va (.int j) => if small62 i = true ∧ small62 j = true then .ok (rngD i (j - i).toNat) s2 else .bad
    | _, _ => .bad
  | .enu c _ _, s => (ev c s).bind fun r s1 => match sqItems s1 r, view s1 r with
    | some l, some (.ls _) => .ok (enumD 0 l) s1
    | _, _ => .bad
  | .zip a b _ _, s => (ev a s).bind fun x s1 => (ev b s1).bind fun y s2 => match sqItems s2 x, sqItems s2 y, view s2 x, view s2 y with
    | some l, some m, some (.ls _), some (.ls _) => .ok (zipD l m) s2
    | _, _, _, _ => .bad
end
/-- text.replace of two written texts -/
def repR (j : Nat) (c1 c2 : Str) (s : S) : Oc R := match s.env[j]? with
  | some (.va (.str z)) => if z.length + (z.length + 1) * c2.length ≤ 16777216 then .ok (.va (.str (Txt.replace z c1 c2))) s else .bad
  | _ => .bad
def Oc.fl {α : Type} (o : Oc α) (f : α → S → Fl) : Fl := match o with
  | .ok a s => f a s
  | .ex c fs s => .ex c fs s
  | .bad => .bad
/-- behind a suite -/
def noXo (l : List Slot) : Bool := l.all fun x => match x with | .xo _ _ => false | _ => true
def aftS (f : Fl) : Fl := match f with
  | .nx s => if noXo s.env = true then .nx s else .bad
  | _ => .bad
def aftA (i : Nat) (f : Fl) : Fl := match f with
  | .nx s => if noXo (s.env.set i .no) = true then .nx (setE s i .no) else .bad
  | _ => .bad
mutual
def exs : CS → S → Fl
  | .set i _ _ c _, s => (ev G cal c s).fl fun r s1 => match keepR r with
    | some d => .nx (setE s1 i (.va d))
    | none => .bad
  | .seto i _ _ c _, s => (ev G cal c s).fl fun r s1 => match r with
    | .fl l => .nx (setE s1 i (.ol l))
    | .fd t l => .nx (setE s1 i (.od t l))
    | .va d => .nx (setE s1 i (.va d))
    | .own _ => .bad
  | .unp l _ _ c _, s => (ev G cal c s).fl fun r s1 => match unpItems s1 r with
    | some ds => match bindN l ds s1 with
      | some s2 => .nx s2
      | none => .bad
    | none => .bad
  | .app i _ _ _ c _ _, s => match s.env[i]? with
    | some (.ol _) => (ev G cal c s).fl fun r s1 => match keepR r, s1.env[i]? with
      | some d, some (.ol l) => if l.length < sizeLine then .nx (setE s1 i (.ol (l ++ [d]))) else .bad
      | _, _ => .bad
    | _ => .bad
  | .expr c _, s => (ev G cal c s).fl fun _ s1 => .nx s1
  | .rev i _ _ _ _ _, s => match s.env[i]? with
    | some (.ol l) => .nx (setE s i (.ol l.reverse))
    | _ => .bad
  | .ret c _, s => (ev G cal c s).fl fun r s1 => .rt r s1
  | .ifs t a b _, s => (asB (ev G cal t s)).fl fun t s1 => if t = true then exb a s1 else exb b s1
  | .for_ tg it b _, s => (evI G cal it s).fl fun l s1 => forTurns (fun d s => match bindT tg d s with
      | some s1 => exb b s1
      | none => .bad) l s1
  | .while_ t b _, s => whTurns (fun s => asB (ev G cal t s)) (fun s => exb b s) whFuel s
  | .ret0 _, s => .rt (.va .non) s
  | .swp2 i _ _ j _ _ _ _ a b _ _ _, s => (evL G cal (.cons a (.cons b .nil)) s).fl fun rs s1 => match keepRs rs with
    | some [d, e] => .nx (setE (setE s1 i (.va d)) j (.va e))
    | _ => .bad
  | .pass _, s => .nx s
  | .sfld o f _ c _, s => (ev G cal c s).fl fun r s1 => match keepR r with
    | some d => (ev G cal o s1).fl fun x s2 => sfldF G f d (bxOf x s2) s2
    | none => .bad
  | .sput o k _ c _, s => (ev G cal c s).fl fun r s1 => match keepR r with
    | some d => (ev G cal o s1).fl fun x s2 => (ev G cal k s2).fl fun y s3 => nxO (chg (putB (keepR y) d) x s3)
    | none => .bad
  | .mapp o _ c _ _, s => (ev G cal o s).fl fun x s1 => if isL x s1 = true then (ev G cal c s1).fl fun r s2 => nxO (chg (appB (keepR r)) x s2) else .bad
  | .mclr o _ _ _, s => (ev G cal o s).fl fun x s1 => if isL x s1 = true then nxO (chg clrB x s1) else .bad
  | .mext o _ c _ _, s => (ev G cal o s).fl fun x s1 => if isL x s1 = true then (ev G cal c s1).fl fun r s2 => if nlk r s2 = true then nxO (chg (extB (view s2 r)) x s2) else .bad else .bad
  | .raisx n _ _ c _ _, s => (ev G cal c s).fl (raisF G n)
  | .forl tg w c _ _ b _, s => match ev G cal c s with
    | .ok r _ => match lkS r s with
      | some (s0, u) => unlF u (((ev G cal c s0).bind fun r1 s1 => opt (wkR w r1 s1) s1).fl fun l s1 => forTurns (fun d s => match bindT tg d s with
        | some s1 => exb b s1
        | none => .bad) l s1)
      | none => .bad
    | _ => .bad
  | .setl i _ _ elt tg w c _ _ ifs _ own _ _, s => match ev G cal c s with
    | .ok r _ => match lkS r s with
      | some (s0, u) => unlF u ((((ev G cal c s0).bind fun r1 s1 => opt (wkR w r1 s1) s1).bind fun l s1 =>
        (lcTurns (fun d s => match bindT tg d s with
        | none => .bad
        | some s1 => (evIfs G cal ifs s1).bind fun t s2 => if t = true then (ev G cal elt s2).bind fun r s3 => (match keepR r with
            | some y => .ok (some y) (wipeE s3 (own.map (·.2)))
            | none => .bad) else .ok none (wipeE s2 (own.map (·.2)))) l [] (wipeE s1 (own.map (·.2)))).bind fun ys s2 => .ok (R.fl ys) s2).fl fun r s1 => match keepR r with
          | some d => .nx (setE s1 i (.va d))
          | none => .bad)
      | none => .bad
    | _ => .bad
  | .wild _, _ => .bad
  | .tokm c, s => exs c s
  | .rep i _ _ j _ _ c1 c2 _ _ _ _ _ _ _, s => (repR j c1 c2 s).fl fun r s1 => match keepR r with
    | some d => .nx (setE s1 i (.va d))
    | none => .bad
  | .raise_ n _ _ _ _ _ _ _, s => .ex n [] s
  | .try_ b hs _, s => match exb b s with
    | .ex c fs s1 => exh hs c fs s1
    | f => f
def exb : CB → S → Fl
  | .nil, s => .nx s
  | .cons c cs, s => match exs c s with
    | .nx s1 => exb cs s1
    | f => f
def exh : CH → Nat → List (Str × D) → S → Fl
  | .nil, c, fs, s => .ex c fs s
  | .cons n _ _ c1 su _ r, c, fs, s => if (G.cls[c]?).isSome = true then (if G.sub c n = true then aftS (match exs c1 s with
    | .nx s1 => exb su s1
    | f => f) else exh r c fs s) else .bad
  | .as_ n _ _ i _ c1 su _ r, c, fs, s => if (G.cls[c]?).isSome = true then (if G.sub c n = true then aftA i (match exs c1 (setE s i (.xo c fs)) with
    | .nx s1 => exb su s1
    | f => f) else exh r c fs s) else .bad
end
end
def outR (f : Fl) : CR := match f with
  | .nx s => .ok (.va .non) s.st
  | .rt (.own _) _ => .bad
  | .rt r s => .ok r s.st
  | .ex c fs s => .ex c fs s.st
  | _ => .bad
/-- a call, so deep at most -/
def cal (G : Prog) : Nat → Nat → List D → Sto → CR
  | 0, _, _, _ => .bad
  | k + 1, n, ds, st => match G.fns[n]? with
    | some f => if ds.length = f.ps then outR (exb G (cal G k) f.body ⟨ds.map .va ++ List.replicate (f.ns - f.ps) .no, st⟩) else .bad
    | none => match G.hfs[n - G.fns.length]?, ds with
      | some f, [.exo c fs] => outR (exb G (cal G k) f.body ⟨.xo c fs :: List.replicate (f.ns - 1) .no, st⟩)
      | _, _ => .bad
end BB

namespace BB
open PySem PySem.Spec PyProof.Rows L2

/-- where the boxes stand, which addresses never change -/
structure Gh where
  io : List Addr
  F : Addr → Prop
/-- the addresses of the text's defs and classes -/
structure Tab where
  f : Nat → Addr
  c : Nat → Addr
  o : Nat → Addr
  x : Option (Addr × Value × Option Addr)
/-- a list that nobody here writes -/
def SqS (K : PySem.W.Frag) (G : Gh) (H : Hp) (a : Addr) (xs : List V) : Prop := (G.F a ∧ Rd H a (.lst xs)) ∨
    ∃ (o : Obj) (its : Array Value) (n : Nat), K.lookup a = some o ∧ o.cls = .type "list" ∧ o.dict = none ∧ o.data = .seq its n ∧ its.size ≤ sizeLine ∧ Vals xs its.toList
/-- a tuple of the written part -/
def KTup (K : PySem.W.Frag) (a : Addr) (xs : List V) : Prop := ∀ H : Hp, SqT K H a xs
section
variable (T : Tab) (K : PySem.W.Frag)
mutual
inductive RV (G : Gh) (H : Hp) : V → D → Prop
  | non : RV G H .non .non
  | bl (b : Bool) : RV G H (.bl b) (.bl b)
  | int (i : Int) : RV G H (.int i) (.int i)
  | str (x : Str) : RV G H (.str x) (.str x)
  | ty (n : String) : RV G H (.ty n) (.ty n)
  | fn (n : Nat) : RV G H (.ref (T.f n)) (.fn n)
  | tup {a : Addr} {vs : List V} {ds : List D} : H a = some (.tup vs) → RVs G H vs ds → RV G H (.ref a) (.tup ds)
  | ktup {a : Addr} {vs : List V} {ds : List D} : KTup K a vs → RVs G H vs ds → RV G H (.ref a) (.ktup ds)
  | lst {a : Addr} {vs : List V} {ds : List D} : G.F a → H a = some (.lst vs) → RVs G H vs ds → RV G H (.ref a) (.lst ds)
  | dcK {a : Addr} {kvs : List (Key × V)} {l : List (D × D)} : G.F a → H a = some (.dK kvs) → RKs G H kvs l → RV G H (.ref a) (.dct false l)
  | dcT {a : Addr} {kvs : List (List Key × V)} {l : List (D × D)} : G.F a → H a = some (.dT kvs) → RTs G H kvs l → RV G H (.ref a) (.dct true l)
  | ref {i : Nat} {a : Addr} : G.io[i]? = some a → RV G H (.ref a) (.ref i)
  | scr {a : Addr} {vs : List V} {ds : List D} : SqS K G H a vs → RVs G H vs ds → RV G H (.ref a) (.scr ds)
inductive RVs (G : Gh) (H : Hp) : List V → List D → Prop
  | nil : RVs G H [] []
  | cons {v : V} {d : D} {vs : List V} {ds : List D} : RV G H v d → RVs G H vs ds → RVs G H (v :: vs) (d :: ds)
inductive RKs (G : Gh) (H : Hp) : List (Key × V) → List (D × D) → Prop
  | nil : RKs G H [] []
  | cons {k : Key} {v : V} {kd d : D} {vs : List (Key × V)} {ds : List (D × D)} : dkey kd = some (.inl k) → RV G H v d → RKs G H vs ds → RKs G H ((k, v) :: vs) ((kd, d) :: ds)
inductive RTs (G : Gh) (H : Hp) : List (List Key × V) → List (D × D) → Prop
  | nil : RTs G H [] []
  | cons {k : List Key} {v : V} {kd d : D} {vs : List (List Key × V)} {ds : List (D × D)} : dkey kd = some (.inr k) → RV G H v d → RTs G H vs ds → RTs G H ((k, v) :: vs) ((kd, d) :: ds)
end
/-- what never changes stands -/
structure Pers (G : Gh) (H : Hp) (G' : Gh) (H' : Hp) : Prop where
  io : ∀ (i : Nat) (a : Addr), G.io[i]? = some a → G'.io[i]? = some a
  F : ∀ a, G.F a → G'.F a
  kF : ∀ a, G.F a → H' a = H a
  tup : ∀ a xs, H a = some (.tup xs) → H' a = some (.tup xs)
  frz : ∀ a o u, H a = some (.frz o u) → H' a = some (.frz o u)
  xd : ∀ a fs, H a = some (.xd fs) → H' a = some (.xd fs)
theorem Pers.refl (G : Gh) (H : Hp) : Pers G H G H := ⟨fun _ _ h => h, fun _ h => h, fun _ _ => rfl, fun _ _ h => h, fun _ _ _ h => h, fun _ _ h => h⟩
theorem Pers.trans {G G1 G2 : Gh} {H H1 H2 : Hp} (a : Pers G H G1 H1) (b : Pers G1 H1 G2 H2) : Pers G H G2 H2 :=
  ⟨fun i x h => b.io i x (a.io i x h), fun x h => b.F x (a.F x h), fun x h => (b.kF x (a.F x h)).trans (a.kF x h), fun x xs h => b.tup x xs (a.tup x xs h), fun x o u h => b.frz x o u (a.frz x o u h), fun x fs h => b.xd x fs (a.xd x fs h)⟩
variable {T K}
theorem Pers.sqT {G G' : Gh} {H H' : Hp} (p : Pers G H G' H') {a : Addr} {xs : List V} (h : SqT K H a xs) : SqT K H' a xs := by
  rcases h with (h | ⟨o, h⟩) | h
  · exact .inl (.inl (p.tup _ _ h))
  · exact .inl (.inr ⟨o, p.frz _ _ _ h⟩)
  · exact .inr h
theorem Pers.rd {G G' : Gh} {H H' : Hp} (p : Pers G H G' H') {a : Addr} {u : HO} (f : G.F a) (h : Rd H a u) : Rd H' a u := by
  unfold Rd at *
  rw [p.kF a f]
  exact h
theorem RV.mono {G G' : Gh} {H H' : Hp} (p : Pers G H G' H') {v : V} {d : D} (h : RV T K G H v d) : RV T K G' H' v d := by
  refine RV.rec (motive_1 := fun v d _ => RV T K G' H' v d) (motive_2 := fun vs ds _ => RVs T K G' H' vs ds) (motive_3 := fun vs ds _ => RKs T K G' H' vs ds) (motive_4 := fun vs ds _ => RTs T K G' H' vs ds)
    ?_ ?_ ?_ ?_ ?_ ?_ ?_ ?_ ?_ ?_ ?_ ?_ ?_ ?_ ?_ ?_ ?_ ?_ ?_ h
  · exact .non
  · exact fun b => .bl b
  · exact fun b => .int b
  · exact fun b => .str b
  · exact fun b => .ty b
  · exact fun b => .fn b
  · exact fun q _ ih => .tup (p.tup _ _ q) ih
  · exact fun q _ ih => .ktup q ih
  · exact fun f q _ ih => .lst (p.F _ f) ((p.kF _ f).trans q) ih
  · exact fun f q _ ih => .dcK (p.F _ f) ((p.kF _ f).trans q) ih
  · exact fun f q _ ih => .dcT (p.F _ f) ((p.kF _ f).trans q) ih
  · exact fun q => .ref (p.io _ _ q)
  · exact fun q _ ih => .scr (q.imp (fun q => ⟨p.F _ q.1, p.rd q.1 q.2⟩) id) ih
  · exact .nil
  · exact fun _ _ i j => .cons i j
  · exact .nil
  · exact fun e _ _ i j => .cons e i j
  · exact .nil
  · exact fun e _ _ i j => .cons e i j
theorem RVs.mono {G G' : Gh} {H H' : Hp} (p : Pers G H G' H') : ∀ {vs : List V} {ds : List D}, RVs T K G H vs ds → RVs T K G' H' vs ds
  | _, _, .nil => .nil
  | _, _, .cons r t => .cons (r.mono p) (RVs.mono p t)
theorem RKs.mono {G G' : Gh} {H H' : Hp} (p : Pers G H G' H') : ∀ {vs : List (Key × V)} {ds : List (D × D)}, RKs T K G H vs ds → RKs T K G' H' vs ds
  | _, _, .nil => .nil
  | _, _, .cons e r t => .cons e (r.mono p) (RKs.mono p t)
theorem RTs.mono {G G' : Gh} {H H' : Hp} (p : Pers G H G' H') : ∀ {vs : List (List Key × V)} {ds : List (D × D)}, RTs T K G H vs ds → RTs T K G' H' vs ds
  | _, _, .nil => .nil
  | _, _, .cons e r t => .cons e (r.mono p) (RTs.mono p t)
variable (T K)
inductive RFs (G : Gh) (H : Hp) : List (Str × V) → List (Str × D) → Prop
  | nil : RFs G H [] []
  | cons {k : Str} {v : V} {d : D} {vs : List (Str × V)} {ds : List (Str × D)} : RV T K G H v d → RFs G H vs ds → RFs G H ((k, v) :: vs) ((k, d) :: ds)
/-- a raised exception: its class, its own fields -/
def ExR (n : Nat) (fs : List (Str × D)) (cls : Value) (d : Option Addr) (G : Gh) (H : Hp) : Prop :=
  cls = .ref (T.c n) ∧ ((fs = [] ∧ d = none) ∨ (fs ≠ [] ∧ ∃ dd fv, d = some dd ∧ H dd = some (.xd fv) ∧ RFs T K G H fv fs))
/-- a slot -/
inductive SlotR (G : Gh) (H : Hp) : Option (Option V) → Slot → Prop
  | no (o : Option (Option V)) : SlotR G H o .no
  | va {v : V} {d : D} : RV T K G H v d → SlotR G H (some (some v)) (.va d)
  | ol {a : Addr} {vs : List V} {l : List D} : H a = some (.lst vs) → RVs T K G H vs l → SlotR G H (some (some (.ref a))) (.ol l)
  | odK {a : Addr} {vs : List (Key × V)} {l : List (D × D)} : H a = some (.dK vs) → RKs T K G H vs l → SlotR G H (some (some (.ref a))) (.od false l)
  | odT {a : Addr} {vs : List (List Key × V)} {l : List (D × D)} : H a = some (.dT vs) → RTs T K G H vs l → SlotR G H (some (some (.ref a))) (.od true l)
  | xo {a : Addr} {cls : Value} {d : Option Addr} {n : Nat} {fs : List (Str × D)} : T.x = some (a, cls, d) → ExR T K n fs cls d G H → SlotR G H (some (some (.ref a))) (.xo n fs)
/-- a box -/
inductive BxR (G : Gh) (H : Hp) (a : Addr) : Bx → Prop
  | ls {vs : List V} {l : List D} : H a = some (.lst vs) → RVs T K G H vs l → BxR G H a (.ls l)
  | dcK {vs : List (Key × V)} {l : List (D × D)} : H a = some (.dK vs) → RKs T K G H vs l → BxR G H a (.dc false l)
  | dcT {vs : List (List Key × V)} {l : List (D × D)} : H a = some (.dT vs) → RTs T K G H vs l → BxR G H a (.dc true l)
  | lkl {vs : List V} {l : List D} {o : Obj} : H a = some (.frz o (.lst vs)) → RVs T K G H vs l → BxR G H a (.lkl l)
  | lkK {vs : List (Key × V)} {l : List (D × D)} {o : Obj} : H a = some (.frz o (.dK vs)) → RKs T K G H vs l → BxR G H a (.lkd false l)
  | lkT {vs : List (List Key × V)} {l : List (D × D)} {o : Obj} : H a = some (.frz o (.dT vs)) → RTs T K G H vs l → BxR G H a (.lkd true l)
  | ins {n : Nat} {dx : Addr} {fs : List (Str × V)} {l : List (Str × D)} : H a = some (.ins (T.o n) dx fs) → RFs T K G H fs l → BxR G H a (.ins n l)
def isOwn : Slot → Bool
  | .ol _ => true
  | .od _ _ => true
  | _ => false
/-- slot i owns the object at a -/
def Own (s : S) (σ : L2.St) (i : Nat) (a : Addr) : Prop := (∃ x, s.env[i]? = some x ∧ isOwn x = true) ∧ σ[i]? = some (some (.ref a))
def OwnA (s : S) (σ : L2.St) (a : Addr) : Prop := ∃ i, Own s σ i a
structure Bs where
  G : Gh
  H : Hp
/-- the store -/
structure RelC (G : Gh) (st : Sto) (H : Hp) : Prop where
  len : st.length = G.io.length
  bx : ∀ (i : Nat) (o : Bx) (a : Addr), st[i]? = some o → G.io[i]? = some a → BxR T K G H a o
  nd : G.io.Nodup
  ioF : ∀ a ∈ G.io, ¬ G.F a
  Fd : ∀ a, G.F a → H a ≠ none
/-- behind a call -/
structure Ext (G : Gh) (H : Hp) (G' : Gh) (H' : Hp) : Prop where
  p : Pers G H G' H'
  keep : ∀ a o, H a = some o → a ∉ G.io → H' a = some o
  dom : ∀ a, H a ≠ none → H' a ≠ none
  nio : ∀ a ∈ G'.io, a ∉ G.io → H a = none
  nF : ∀ a, G'.F a → ¬ G.F a → H a = none
theorem Ext.refl (G : Gh) (H : Hp) : Ext G H G H := ⟨.refl _ _, fun _ _ h _ => h, fun _ h => h, fun _ h n => absurd h n, fun _ h n => absurd h n⟩
/-- the frame and the store -/
structure Rel (B : Bs) (G : Gh) (s : S) (σ : L2.St) (H : Hp) : Prop where
  len : s.env.length = σ.length
  sl : ∀ (i : Nat) (x : Slot), s.env[i]? = some x → SlotR T K G H σ[i]? x
  own1 : ∀ a, OwnA s σ a → ¬ G.F a ∧ a ∉ G.io ∧ B.H a = none
  own2 : ∀ i j a, Own s σ i a → Own s σ j a → i = j
  c : RelC T K G s.st H
  b : Ext B.G B.H G H
/-- an expression's step -/
structure Stp (σ : L2.St) (G : Gh) (s : S) (H : Hp) (G' : Gh) (s' : S) (H' : Hp) : Prop where
  p : Pers G H G' H'
  keep : ∀ a o, H a = some o → a ∉ G.io → ¬ OwnA s σ a → H' a = some o
  dom : ∀ a, H a ≠ none → H' a ≠ none
  nio : ∀ a ∈ G'.io, a ∉ G.io → H a = none ∨ OwnA s σ a
  nF : ∀ a, G'.F a → ¬ G.F a → H a = none ∨ OwnA s σ a
  ow : ∀ a, OwnA s' σ a → OwnA s σ a
theorem Stp.refl (σ : L2.St) (G : Gh) (s : S) (H : Hp) : Stp σ G s H G s H := ⟨.refl _ _, fun _ _ h _ _ => h, fun _ h => h, fun _ h n => absurd h n, fun _ h n => absurd h n, fun _ h => h⟩
variable {T K}
theorem io_mem {l : List Addr} {a : Addr} (h : a ∈ l) : ∃ i : Nat, l[i]? = some a := List.getElem?_of_mem h
theorem Stp.trans {σ : L2.St} {G G1 G2 : Gh} {s s1 s2 : S} {H H1 H2 : Hp} (a : Stp σ G s H G1 s1 H1) (b : Stp σ G1 s1 H1 G2 s2 H2) : Stp σ G s H G2 s2 H2 where
  p := a.p.trans b.p
  keep := fun x o h n no => b.keep x o (a.keep x o h n no) (fun q => by
    rcases a.nio x q n with z | z
    · rw [h] at z; cases z
    · exact no z) fun q => no (a.ow x q)
  dom := fun x h => b.dom x (a.dom x h)
  nio := fun x h n => by
    by_cases q : x ∈ G1.io
    · exact a.nio x q n
    · rcases b.nio x h q with z | z
      · left
        cases e : H x with
        | none => rfl
        | some o => exact absurd z (a.dom x (by rw [e]; simp))
      · exact .inr (a.ow x z)
  nF := fun x h n => by
    by_cases q : G1.F x
    · exact a.nF x q n
    · rcases b.nF x h q with z | z
      · left
        cases e : H x with
        | none => rfl
        | some o => exact absurd z (a.dom x (by rw [e]; simp))
      · exact .inr (a.ow x z)
  ow := fun x h => a.ow x (b.ow x h)

/-! results -/
variable (T K)
/-- a fresh list or dict at a -/
structure Fresh (B : Bs) (s0 : S) (H0 : Hp) (G : Gh) (s : S) (σ : L2.St) (H : Hp) (a : Addr) : Prop where
  nF : ¬ G.F a
  nio : a ∉ G.io
  now : ¬ OwnA s σ a
  bn : B.H a = none
  st : H0 a = none ∨ OwnA s0 σ a
inductive RR (B : Bs) (s0 : S) (H0 : Hp) (G : Gh) (s : S) (σ : L2.St) (H : Hp) : V → R → Prop
  | va {v : V} {d : D} : RV T K G H v d → RR B s0 H0 G s σ H v (.va d)
  | fl {a : Addr} {vs : List V} {l : List D} : H a = some (.lst vs) → RVs T K G H vs l → Fresh B s0 H0 G s σ H a → RR B s0 H0 G s σ H (.ref a) (.fl l)
  | fdK {a : Addr} {vs : List (Key × V)} {l : List (D × D)} : H a = some (.dK vs) → RKs T K G H vs l → Fresh B s0 H0 G s σ H a → RR B s0 H0 G s σ H (.ref a) (.fd false l)
  | fdT {a : Addr} {vs : List (List Key × V)} {l : List (D × D)} : H a = some (.dT vs) → RTs T K G H vs l → Fresh B s0 H0 G s σ H a → RR B s0 H0 G s σ H (.ref a) (.fd true l)
  | own {i : Nat} {v : V} : σ[i]? = some (some v) → RR B s0 H0 G s σ H v (.own i)
inductive RRs (B : Bs) (s0 : S) (H0 : Hp) (G : Gh) (s : S) (σ : L2.St) (H : Hp) : List V → List R → Prop
  | nil : RRs B s0 H0 G s σ H [] []
  | cons {v : V} {r : R} {vs : List V} {rs : List R} : RR T K B s0 H0 G s σ H v r → RRs B s0 H0 G s σ H vs rs → RRs B s0 H0 G s σ H (v :: vs) (r :: rs)
variable {T K}
section
variable {B : Bs} {σ : L2.St} {G0 G1 G2 : Gh} {s0 s1 s2 : S} {H0 H1 H2 : Hp}
theorem Fresh.mono {a : Addr} {o : HO} (h : Fresh B s0 H0 G1 s1 σ H1 a) (e : H1 a = some o) (p : Stp σ G1 s1 H1 G2 s2 H2) : Fresh B s0 H0 G2 s2 σ H2 a ∧ H2 a = some o := by
  have no : ¬ (H1 a = none ∨ OwnA s1 σ a) := fun z => by
    rcases z with z | z
    · rw [e] at z; cases z
    · exact h.now z
  exact ⟨⟨fun z => no (p.nF a z h.nF), fun z => no (p.nio a z h.nio), fun z => h.now (p.ow a z), h.bn, h.st⟩, p.keep a o e h.nio h.now⟩
theorem RR.mono {v : V} {r : R} (h : RR T K B s0 H0 G1 s1 σ H1 v r) (p : Stp σ G1 s1 H1 G2 s2 H2) : RR T K B s0 H0 G2 s2 σ H2 v r := by
  cases h with
  | va q => exact .va (q.mono p.p)
  | fl e q f => exact .fl (f.mono e p).2 (q.mono p.p) (f.mono e p).1
  | fdK e q f => exact .fdK (f.mono e p).2 (q.mono p.p) (f.mono e p).1
  | fdT e q f => exact .fdT (f.mono e p).2 (q.mono p.p) (f.mono e p).1
  | own e => exact .own e
theorem Fresh.back {a : Addr} (h : Fresh B s1 H1 G2 s2 σ H2 a) (p : Stp σ G0 s0 H0 G1 s1 H1) : Fresh B s0 H0 G2 s2 σ H2 a := by
  refine ⟨h.nF, h.nio, h.now, h.bn, ?_⟩
  rcases h.st with z | z
  · left
    cases e : H0 a with
    | none => rfl
    | some o => exact absurd z (p.dom a (by rw [e]; simp))
  · exact .inr (p.ow a z)
theorem RR.back {v : V} {r : R} (h : RR T K B s1 H1 G2 s2 σ H2 v r) (p : Stp σ G0 s0 H0 G1 s1 H1) : RR T K B s0 H0 G2 s2 σ H2 v r := by
  cases h with
  | va q => exact .va q
  | fl e q f => exact .fl e q (f.back p)
  | fdK e q f => exact .fdK e q (f.back p)
  | fdT e q f => exact .fdT e q (f.back p)
  | own e => exact .own e
theorem RRs.mono (p : Stp σ G1 s1 H1 G2 s2 H2) : ∀ {vs : List V} {rs : List R}, RRs T K B s0 H0 G1 s1 σ H1 vs rs → RRs T K B s0 H0 G2 s2 σ H2 vs rs
  | _, _, .nil => .nil
  | _, _, .cons a b => .cons (a.mono p) (RRs.mono p b)
theorem RRs.back (p : Stp σ G0 s0 H0 G1 s1 H1) : ∀ {vs : List V} {rs : List R}, RRs T K B s1 H1 G2 s2 σ H2 vs rs → RRs T K B s0 H0 G2 s2 σ H2 vs rs
  | _, _, .nil => .nil
  | _, _, .cons a b => .cons (a.back p) (RRs.back p b)
end
end
end BB

namespace BB
open PySem PySem.Spec PyProof.Rows L2
abbrev St := L2.St
section
variable (T : Tab) (K : PySem.W.Frag)
/-- a value, seen (a tuple of the written part as any other) -/
inductive RVo (G : Gh) (H : Hp) : V → D → Prop
  | non : RVo G H .non .non
  | bl (b : Bool) : RVo G H (.bl b) (.bl b)
  | int (i : Int) : RVo G H (.int i) (.int i)
  | str (x : Str) : RVo G H (.str x) (.str x)
  | ty (n : String) : RVo G H (.ty n) (.ty n)
  | fn (n : Nat) : RVo G H (.ref (T.f n)) (.fn n)
  | tup {a : Addr} {vs : List V} {ds : List D} : SqT K H a vs → RVs T K G H vs ds → RVo G H (.ref a) (.tup ds)
  | ref {i : Nat} {a : Addr} : G.io[i]? = some a → RVo G H (.ref a) (.ref i)
inductive VW (G : Gh) (H : Hp) : V → Vw → Prop
  | at {v : V} {d : D} : RVo T K G H v d → VW G H v (.at d)
  | ls {a : Addr} {vs : List V} {l : List D} : Rd H a (.lst vs) → RVs T K G H vs l → VW G H (.ref a) (.ls l)
  | sc {a : Addr} {vs : List V} {l : List D} : SqL K H a vs → RVs T K G H vs l → VW G H (.ref a) (.sc l)
  | dcK {a : Addr} {vs : List (Key × V)} {l : List (D × D)} : H a = some (.dK vs) → RKs T K G H vs l → VW G H (.ref a) (.dc false l)
  | dcT {a : Addr} {vs : List (List Key × V)} {l : List (D × D)} : H a = some (.dT vs) → RTs T K G H vs l → VW G H (.ref a) (.dc true l)
  | dlK {a : Addr} {vs : List (Key × V)} {l : List (D × D)} {o : Obj} : H a = some (.frz o (.dK vs)) → RKs T K G H vs l → VW G H (.ref a) (.dl false l)
  | dlT {a : Addr} {vs : List (List Key × V)} {l : List (D × D)} {o : Obj} : H a = some (.frz o (.dT vs)) → RTs T K G H vs l → VW G H (.ref a) (.dl true l)
/-- a new value or object -/
inductive NewR (G : Gh) (H : Hp) : Hp → V → R → Prop
  | same {v : V} {d : D} : RV T K G H v d → NewR G H H v (.va d)
  | tup {p : Addr} {vs : List V} {ds : List D} : H p = none → RVs T K G H vs ds → NewR G H (upd H p (.tup vs)) (.ref p) (.va (.tup ds))
  | lst {p : Addr} {vs : List V} {ds : List D} : H p = none → RVs T K G H vs ds → NewR G H (upd H p (.lst vs)) (.ref p) (.fl ds)
  | dK {p : Addr} {vs : List (Key × V)} {l : List (D × D)} : H p = none → RKs T K G H vs l → NewR G H (upd H p (.dK vs)) (.ref p) (.fd false l)
  | dT {p : Addr} {vs : List (List Key × V)} {l : List (D × D)} : H p = none → RTs T K G H vs l → NewR G H (upd H p (.dT vs)) (.ref p) (.fd true l)
end
section
variable {T : Tab} {K : PySem.W.Frag} {B : Bs} {G : Gh} {s : S} {σ : L2.St} {H : Hp}
theorem view_ok {s0 : S} {H0 : Hp} {v : V} {r : R} {w : Vw} (hR : Rel T K B G s σ H) (h : RR T K B s0 H0 G s σ H v r) (e : view s r = some w) : VW T K G H v w := by
  cases h with
  | @va v d q =>
    cases q with
    | lst f x y => injection e with e; subst e; exact .ls (.inl x) y
    | scr x y => injection e with e; subst e; exact .sc (x.imp (fun x => x.2) id) y
    | dcK f x y => injection e with e; subst e; exact .dcK x y
    | dcT f x y => injection e with e; subst e; exact .dcT x y
    | @ref i a x =>
      have e' : vwBx i s.st[i]? = some w := e
      cases q : s.st[i]? with
      | none => rw [q] at e'; cases e'
      | some o =>
        rw [q] at e'
        have z := hR.c.bx _ _ _ q x
        cases o with
        | ls l => injection e' with e'; subst e'; cases z with
          | ls p q => exact .ls (.inl p) q
        | dc t l => injection e' with e'; subst e'; cases z with
          | dcK p q => exact .dcK p q
          | dcT p q => exact .dcT p q
        | lkl l => injection e' with e'; subst e'; cases z with
          | lkl p q => exact .ls (.inr ⟨_, p⟩) q
        | lkd t l => injection e' with e'; subst e'; cases z with
          | lkK p q => exact .dlK p q
          | lkT p q => exact .dlT p q
        | ins c fs => injection e' with e'; subst e'; exact .at (.ref x)
    | non => injection e with e; subst e; exact .at .non
    | bl b => injection e with e; subst e; exact .at (.bl b)
    | int b => injection e with e; subst e; exact .at (.int b)
    | str b => injection e with e; subst e; exact .at (.str b)
    | ty b => injection e with e; subst e; exact .at (.ty b)
    | fn b => injection e with e; subst e; exact .at (.fn b)
    | tup a b => injection e with e; subst e; exact .at (.tup (.inl (.inl a)) b)
    | ktup a b => injection e with e; subst e; exact .at (.tup (a H) b)
  | fl p q f => injection e with e; subst e; exact .ls (.inl p) q
  | fdK p q f => injection e with e; subst e; exact .dcK p q
  | fdT p q f => injection e with e; subst e; exact .dcT p q
  | @own i v x =>
    have e' : vwSl s.env[i]? = some w := e
    cases q : s.env[i]? with
    | none => rw [q] at e'; cases e'
    | some o =>
      rw [q] at e'
      have z := hR.sl _ _ q
      rw [x] at z
      cases o with
      | no => cases e'
      | xo c fs => cases e'
      | va d => cases e'
      | ol l => injection e' with e'; subst e'; cases z with
        | ol p q => exact .ls (.inl p) q
      | od t l => injection e' with e'; subst e'; cases z with
        | odK p q => exact .dcK p q
        | odT p q => exact .dcT p q
theorem RVo.mono {G' : Gh} {H' : Hp} {v : V} {d : D} (h : RVo T K G H v d) (p : Pers G H G' H') : RVo T K G' H' v d := by
  cases h with
  | non => exact .non
  | bl b => exact .bl b
  | int b => exact .int b
  | str b => exact .str b
  | ty b => exact .ty b
  | fn b => exact .fn b
  | tup a b => exact .tup (p.sqT a) (b.mono p)
  | ref a => exact .ref (p.io _ _ a)
theorem VW.mono {G' : Gh} {v : V} {w : Vw} (h : VW T K G H v w) (p : Pers G H G' H) : VW T K G' H v w := by
  cases h with
  | «at» q => exact .at (q.mono p)
  | ls a b => exact .ls a (b.mono p)
  | sc a b => exact .sc a (b.mono p)
  | dcK a b => exact .dcK a (b.mono p)
  | dcT a b => exact .dcT a (b.mono p)
  | dlK a b => exact .dlK a (b.mono p)
  | dlT a b => exact .dlT a (b.mono p)
theorem rd_upd {a b : Addr} {u o : HO} (n : b ≠ a) (r : Rd H b u) : Rd (upd H a o) b u := by
  unfold Rd at *
  rw [upd_ne n]
  exact r
theorem pers_upd {p : Addr} {o : HO} (hp : H p = none) (hR : RelC T K G s.st H) : Pers G H G (upd H p o) :=
  ⟨fun _ _ h => h, fun _ h => h, fun a h => upd_ne (fun z => hR.Fd a h (by rw [z]; exact hp)), fun a xs h => by rw [upd_ne (ne_of_none h hp)]; exact h, fun a o u h => by rw [upd_ne (ne_of_none h hp)]; exact h, fun a fs h => by rw [upd_ne (ne_of_none h hp)]; exact h⟩
theorem ext_upd {p : Addr} {o : HO} (hp : H p = none) (hR : RelC T K G s.st H) : Ext G H G (upd H p o) :=
  ⟨pers_upd hp hR, fun a u h _ => by rw [upd_ne (ne_of_none h hp)]; exact h, fun a h => by
    rw [upd_ne (fun z => h (by rw [z]; exact hp))]; exact h, fun _ h n => absurd h n, fun _ h n => absurd h n⟩
theorem RFs.mono {G' : Gh} {H' : Hp} (p : Pers G H G' H') : ∀ {vs : List (Str × V)} {ds : List (Str × D)}, RFs T K G H vs ds → RFs T K G' H' vs ds
  | _, _, .nil => .nil
  | _, _, .cons r t => .cons (r.mono p) (RFs.mono p t)
theorem ExR.mono {G' : Gh} {H' : Hp} {n : Nat} {fs : List (Str × D)} {cls : Value} {d : Option Addr} (h : ExR T K n fs cls d G H) (p : Pers G H G' H') : ExR T K n fs cls d G' H' :=
  ⟨h.1, h.2.imp id fun ⟨ne, dd, fv, e, e2, r⟩ => ⟨ne, dd, fv, e, p.xd _ _ e2, RFs.mono p r⟩⟩
theorem SlotR.mono {G' : Gh} {H' : Hp} {o : Option (Option V)} {x : Slot} (h : SlotR T K G H o x) (p : Pers G H G' H') (k : ∀ a u, o = some (some (.ref a)) → isOwn x = true → H a = some u → H' a = some u) : SlotR T K G' H' o x := by
  cases h with
  | no => exact .no _
  | va q => exact .va (q.mono p)
  | ol e q => exact .ol (k _ _ rfl rfl e) (q.mono p)
  | odK e q => exact .odK (k _ _ rfl rfl e) (q.mono p)
  | odT e q => exact .odT (k _ _ rfl rfl e) (q.mono p)
  | xo e q => exact .xo e (q.mono p)
theorem BxR.mono {G' : Gh} {H' : Hp} {a : Addr} {x : Bx} (h : BxR T K G H a x) (p : Pers G H G' H') (k : ∀ u, H a = some u → H' a = some u) : BxR T K G' H' a x := by
  cases h with
  | ls e q => exact .ls (k _ e) (q.mono p)
  | dcK e q => exact .dcK (k _ e) (q.mono p)
  | dcT e q => exact .dcT (k _ e) (q.mono p)
  | lkl e q => exact .lkl (k _ e) (q.mono p)
  | lkK e q => exact .lkK (k _ e) (q.mono p)
  | lkT e q => exact .lkT (k _ e) (q.mono p)
  | ins e q => exact .ins (k _ e) (q.mono p)
theorem BxR.there {a : Addr} {x : Bx} (h : BxR T K G H a x) : ∃ u, H a = some u := by
  cases h <;> exact ⟨_, by assumption⟩
theorem SlotR.there {o : Option (Option V)} {x : Slot} (h : SlotR T K G H o x) (hx : isOwn x = true) : ∃ a u, o = some (some (.ref a)) ∧ H a = some u := by
  cases h <;> first | (cases hx; done) | exact ⟨_, _, rfl, by assumption⟩
theorem Rel.ownThere (hR : Rel T K B G s σ H) {a : Addr} (h : OwnA s σ a) : ∃ u, H a = some u := by
  obtain ⟨i, ⟨x, e, ho⟩, e2⟩ := h
  obtain ⟨a', u, e3, e4⟩ := (hR.sl i x e).there ho
  rw [e2] at e3
  cases e3
  exact ⟨u, e4⟩
theorem RelC.ioThere (hR : RelC T K G s.st H) {a : Addr} (h : a ∈ G.io) : ∃ u, H a = some u := by
  obtain ⟨i, e⟩ := io_mem h
  have hi : i < s.st.length := by rw [hR.len]; exact (List.getElem?_eq_some_iff.mp e).1
  exact (hR.bx i _ a (List.getElem?_eq_getElem hi) e).there
/-- a new object laid -/
theorem Rel.laid {p : Addr} {o : HO} (hR : Rel T K B G s σ H) (hp : H p = none) : Rel T K B G s σ (upd H p o) := by
  have P : Pers G H G (upd H p o) := pers_upd hp hR.c
  have k : ∀ (a : Addr) (u : HO), H a = some u → (upd H p o) a = some u := fun a u e => by rw [upd_ne (ne_of_none e hp)]; exact e
  refine ⟨hR.len, fun i x e => (hR.sl i x e).mono P fun a u _ _ q => k a u q, hR.own1, hR.own2, ⟨hR.c.len, fun i x a e1 e2 => (hR.c.bx i x a e1 e2).mono P fun u q => k a u q, hR.c.nd, hR.c.ioF, fun a h z => ?_⟩, ?_⟩
  · have := hR.c.Fd a h
    cases e : H a with
    | none => exact this e
    | some u => rw [k a u e] at z; cases z
  · refine ⟨hR.b.p.trans P, fun a u e n => k a u (hR.b.keep a u e n), fun a e z => ?_, hR.b.nio, hR.b.nF⟩
    have := hR.b.dom a e
    cases q : H a with
    | none => exact this q
    | some u => rw [k a u q] at z; cases z
theorem Stp.laid {p : Addr} {o : HO} (hR : Rel T K B G s σ H) (hp : H p = none) : Stp σ G s H G s (upd H p o) :=
  let e := ext_upd (o := o) hp hR.c
  ⟨e.p, fun a u h n _ => e.keep a u h n, e.dom, fun a h n => .inl (e.nio a h n), fun a h n => .inl (e.nF a h n), fun _ h => h⟩
theorem Rel.fresh {p : Addr} {o : HO} (hR : Rel T K B G s σ H) (hp : H p = none) : Fresh B s H G s σ (upd H p o) p := by
  refine ⟨fun z => hR.c.Fd p z hp, fun z => ?_, fun z => ?_, ?_, .inl hp⟩
  · obtain ⟨u, e⟩ := hR.c.ioThere z; rw [hp] at e; cases e
  · obtain ⟨u, e⟩ := hR.ownThere z; rw [hp] at e; cases e
  · cases e : B.H p with
    | none => rfl
    | some u => exact absurd hp (hR.b.dom p (by rw [e]; simp))
theorem new_ok {H' : Hp} {v : V} {r : R} (hR : Rel T K B G s σ H) (n : NewR T K G H H' v r) : Stp σ G s H G s H' ∧ Rel T K B G s σ H' ∧ RR T K B s H G s σ H' v r := by
  cases n with
  | same q => exact ⟨.refl _ _ _ _, hR, .va q⟩
  | tup hp q => exact ⟨.laid hR hp, hR.laid hp, .va (.tup upd_same (q.mono (pers_upd hp hR.c)))⟩
  | lst hp q => exact ⟨.laid hR hp, hR.laid hp, .fl upd_same (q.mono (pers_upd hp hR.c)) (hR.fresh hp)⟩
  | dK hp q => exact ⟨.laid hR hp, hR.laid hp, .fdK upd_same (q.mono (pers_upd hp hR.c)) (hR.fresh hp)⟩
  | dT hp q => exact ⟨.laid hR hp, hR.laid hp, .fdT upd_same (q.mono (pers_upd hp hR.c)) (hR.fresh hp)⟩
end
end BB

namespace BB
open PySem PySem.Spec PyProof.Rows L2
section
variable {T : Tab} {K : PySem.W.Frag} {G : Gh} {H : Hp}
theorem RV.scal {v x : V} {d : D} (h : RV T K G H v d) (e : scalD d = some x) : v = x := by
  cases h <;> first | (cases e; done) | (injection e)
theorem RVo.scal {v x : V} {d : D} (h : RVo T K G H v d) (e : scalD d = some x) : v = x := by
  cases h <;> first | (cases e; done) | (injection e)
theorem VW.scal {v x : V} {d : Vw} (h : VW T K G H v d) (e : d.scal = some x) : v = x := by
  cases h with
  | «at» q => exact q.scal e
  | ls _ _ => cases e
  | sc _ _ => cases e
  | dcK _ _ => cases e
  | dcT _ _ => cases e
  | dlK _ _ => cases e
  | dlT _ _ => cases e
mutual
theorem dp_of : ∀ (d : D) {v : V} {p : PyData}, RV T K G H v d → toP d = some p → Dp K H v p
  | .non, _, _, .non, e => by injection e with e; subst e; exact .non
  | .bl b, _, _, .bl _, e => by injection e with e; subst e; exact .bl b
  | .int b, _, _, .int _, e => by injection e with e; subst e; exact .int b
  | .str b, _, _, .str _, e => by injection e with e; subst e; exact .str b
  | .tup l, _, _, .tup q r, e => by
    unfold toP at e
    split at e
    · rename_i ps h; injection e with e; subst e; exact .tup (.inl (.inl q)) (dps_of l r h)
    · cases e
  | .ktup l, _, _, .ktup q r, e => by
    unfold toP at e
    split at e
    · rename_i ps h; injection e with e; subst e; exact .tup (q H) (dps_of l r h)
    · cases e
  | .lst l, _, _, .lst f q r, e => by
    unfold toP at e
    split at e
    · rename_i ps h; injection e with e; subst e; exact .lst (.inl (.inl q)) (dps_of l r h)
    · cases e
theorem dps_of : ∀ (ds : List D) {vs : List V} {ps : List PyData}, RVs T K G H vs ds → toPs ds = some ps → DpAll K H vs ps
  | [], _, _, .nil, e => by injection e with e; subst e; exact .nil
  | d :: ds, _, _, .cons r t, e => by
    unfold toPs at e
    split at e
    · rename_i p ps h1 h2; injection e with e; subst e; exact .cons (dp_of d r h1) (dps_of ds t h2)
    · cases e
end
theorem RVo.dp : ∀ (d : D) {v : V} {p : PyData}, RVo T K G H v d → toP d = some p → Dp K H v p
  | .non, _, _, .non, e => by injection e with e; subst e; exact .non
  | .bl b, _, _, .bl _, e => by injection e with e; subst e; exact .bl b
  | .int b, _, _, .int _, e => by injection e with e; subst e; exact .int b
  | .str b, _, _, .str _, e => by injection e with e; subst e; exact .str b
  | .tup l, _, _, .tup q r, e => by
    unfold toP at e
    split at e
    · rename_i ps h; injection e with e; subst e; exact .tup q (dps_of l r h)
    · cases e
theorem VW.dp {v : V} {p : PyData} {d : Vw} (h : VW T K G H v d) (e : d.toP = some p) : Dp K H v p := by
  cases h with
  | «at» q => exact RVo.dp _ q e
  | ls q r =>
    rename_i l
    have e : (match toPs l with | some ps => some (PyData.list ps) | none => none) = some p := e
    split at e
    · rename_i ps h2; injection e with e; subst e; exact .lst (.inl q) (dps_of _ r h2)
    · cases e
  | sc _ _ => cases e
  | dcK _ _ => cases e
  | dcT _ _ => cases e
  | dlK _ _ => cases e
  | dlT _ _ => cases e
theorem flats_of : ∀ {ds : List D} {vs xs : List V}, RVs T K G H vs ds → flats ds = some xs → vs = xs ∧ xs.all flatV = true
  | [], _, _, .nil, e => by injection e with e; subst e; exact ⟨rfl, rfl⟩
  | d :: ds, _, _, .cons r t, e => by
    unfold flats at e
    split at e
    · rename_i v vs h1 h2
      split at e
      · rename_i hf
        injection e with e; subst e
        obtain ⟨a, b⟩ := flats_of t h2
        have := r.scal h1
        subst this; subst a
        exact ⟨rfl, by rw [List.all_cons, hf, b]; rfl⟩
      · cases e
    · cases e
theorem RVs.length : ∀ {vs : List V} {ds : List D}, RVs T K G H vs ds → vs.length = ds.length
  | _, _, .nil => rfl
  | _, _, .cons _ t => by rw [List.length_cons, List.length_cons, RVs.length t]
theorem RVs.append : ∀ {vs ws : List V} {ds es : List D}, RVs T K G H vs ds → RVs T K G H ws es → RVs T K G H (vs ++ ws) (ds ++ es)
  | _, _, _, _, .nil, t => t
  | _, _, _, _, .cons r s, t => .cons r (RVs.append s t)
theorem RVs.drop : ∀ {vs : List V} {ds : List D} (n : Nat), RVs T K G H vs ds → RVs T K G H (vs.drop n) (ds.drop n)
  | _, _, 0, h => h
  | _, _, _ + 1, .nil => .nil
  | _, _, n + 1, .cons _ t => RVs.drop n t
theorem RVs.take : ∀ {vs : List V} {ds : List D} (n : Nat), RVs T K G H vs ds → RVs T K G H (vs.take n) (ds.take n)
  | _, _, 0, _ => .nil
  | _, _, _ + 1, .nil => .nil
  | _, _, n + 1, .cons r t => .cons r (RVs.take n t)
theorem RVs.get : ∀ {vs : List V} {ds : List D} {i : Nat} {d : D}, RVs T K G H vs ds → ds[i]? = some d → ∃ v, vs[i]? = some v ∧ RV T K G H v d
  | _, _, _, _, .nil, e => by cases e
  | _, _, 0, _, .cons r t, e => by injection e with e; subst e; exact ⟨_, rfl, r⟩
  | _, _, i + 1, _, .cons r t, e => by
    obtain ⟨v, a, b⟩ := RVs.get (i := i) t (by simpa using e)
    exact ⟨v, by simpa using a, b⟩
theorem RVs.cut {vs : List V} {ds : List D} (lo hi : Option Int) (h : RVs T K G H vs ds) : RVs T K G H (cutV vs lo hi) (cutD ds lo hi) := by
  unfold cutV cutD
  rw [h.length]
  exact (h.drop _).take _
theorem RVs.ix {vs : List V} {ds : List D} {i : Int} {d : D} (h : RVs T K G H vs ds) (e : atI ds i = some d) : ∃ v, atI vs i = some v ∧ RV T K G H v d := by
  unfold atI at *
  rw [h.length]
  cases q : ixN ds.length i with
  | none => rw [q] at e; cases e
  | some j =>
    rw [q] at e
    exact h.get e
theorem RVs.ints : ∀ {vs : List V} {ds : List D} {ns : List Int}, RVs T K G H vs ds → intsD ds = some ns → vs = ns.map V.int
  | _, _, _, .nil, e => by injection e with e; subst e; rfl
  | _, _, _, .cons (d := d) r t, e => by
    unfold intsD at e
    split at e
    · rename_i i is h1 h2
      injection e with e; subst e
      rw [RVs.ints t h2]
      cases d <;> first | (cases h1; done) | (injection h1 with h1; subst h1; cases r; rfl)
    · cases e
theorem RVs.bools : ∀ {vs : List V} {ds : List D} {ns : List Bool}, RVs T K G H vs ds → blsD ds = some ns → vs = ns.map V.bl
  | _, _, _, .nil, e => by injection e with e; subst e; rfl
  | _, _, _, .cons (d := d) r t, e => by
    unfold blsD at e
    split at e
    · rename_i i is h1 h2
      injection e with e; subst e
      rw [RVs.bools t h2]
      cases d <;> first | (cases h1; done) | (injection h1 with h1; subst h1; cases r; rfl)
    · cases e
theorem RVs.txts : ∀ {vs : List V} {ds : List D} {ns : List Str}, RVs T K G H vs ds → txD ds = some ns → vs = ns.map V.str
  | _, _, _, .nil, e => by injection e with e; subst e; rfl
  | _, _, _, .cons h t, e => by
    unfold txD at e
    split at e
    · rename_i h1
      injection e with e; subst e
      cases h
      rw [t.txts h1]
      rfl
    · cases e
theorem RVs.texts : ∀ {vs : List V} {ds : List D} {ns : List Str}, RVs T K G H vs ds → strsD ds = some ns → vs = ns.map V.str
  | _, _, _, .nil, e => by injection e with e; subst e; rfl
  | _, _, _, .cons (d := d) r t, e => by
    unfold strsD at e
    split at e
    · rename_i i is h1 h2
      injection e with e; subst e
      rw [RVs.texts t h2]
      cases d <;> first | (cases h1; done) | (injection h1 with h1; subst h1; cases r; rfl)
    · cases e
theorem RVs.ofTexts : ∀ (zs : List Str), RVs T K G H (zs.map V.str) (zs.map D.str)
  | [] => .nil
  | z :: zs => .cons (.str z) (RVs.ofTexts zs)
end

/-! operators -/
def rCatR : R2 := fun x y H Q => ∃ l b xs zs, x = .ref l ∧ y = .ref b ∧ Rd H l (.lst xs) ∧ Rd H b (.lst zs) ∧ xs.length + zs.length ≤ sizeLine ∧ ∀ p, H p = none → Q (.ref p) (upd H p (.lst (xs ++ zs)))
def rMulS : R2 := fun x y H Q => ∃ z k, x = .str z ∧ y = .int k ∧ 0 ≤ k ∧ k ≤ 16777216 ∧ z.length * k.toNat ≤ 16777216 ∧ Q (.str (Txt.mul z k)) H
def rMulL : R2 := fun x y H Q => ∃ l k xs, x = .ref l ∧ y = .int k ∧ Rd H l (.lst xs) ∧ 0 ≤ k ∧ k ≤ 1000 ∧ xs.length * k.toNat ≤ 1000000 ∧ ∀ p, H p = none → Q (.ref p) (upd H p (.lst (List.replicate k.toNat xs).flatten))
def rNo : R2 := fun _ _ _ _ => False
theorem rep_len {α : Type} (xs : List α) : ∀ k : Nat, (List.replicate k xs).flatten.length = xs.length * k
  | 0 => rfl
  | k + 1 => by rw [List.replicate_succ, List.flatten_cons, List.length_append, rep_len xs k, Nat.mul_succ]; omega
theorem mul_list_raw {prog : Program} {w : World} {A : Around} {E : Value → Shared → Prop} {s : Shared} {l : Addr} {items : Array Value} {n : Nat} {x : Int} {u : Tok} {Q : Value → Shared → Prop}
    (ho : s.heap.get? l = some { cls := .type "list", dict := none, data := .seq items n, slots := #[] }) (h0 : 0 ≤ x) (h1 : x ≤ 1000) (hsz : items.size * x.toNat ≤ 1000000)
    (h : Q (.ref s.heap.objs.size) { s with heap := s.heap.push { cls := .type "list", data := .seq (List.replicate x.toNat items.toList).flatten.toArray } }) : wpAny (model prog w) A (binaryOp .Mult (.ref l) (.int x u)) Q E s := by
  refine wpAny_binaryOp_repeat_ref (T := "list") (U := "int") (by decide) ⟨_, ho, rfl⟩ (fun s' => typeIs_int s' x u) noFill_list_mul F.fills_int_mul F.slot_int_rmul repeat_list F.slot_int_index.lookup
    (call_meets F.slot_int_rmul (typeIs_int s x u) F.entry_int_rmul (F.args_int_rmul_2 _ _) (lm_int_rmul_list_any x u l items n none #[])
      ⟨ho, rfl, ⟨_, ho, rfl⟩, call_meets F.slot_list_mul ⟨_, ho, rfl⟩ F.entry_list_mul (F.args_list_mul_2 _ _)
        (lm_list_mul_any l items n none #[] x u (by simp [Builtin.List.listFitsIndex]; omega) (by omega) (by simp [Builtin.List.listTooLong, sizeLine]; omega))
        ⟨ho, ?_⟩⟩)
  rw [listMul_foldl_if]
  exact h
section
variable {X : Cx}
theorem op_mulS : OpR X (binaryOp .Mult) rMulS := by
  intro pins s σ H x y v u Q I rx ry h
  obtain ⟨i, k, rfl, rfl, h1, h2, h3, q⟩ := h
  obtain ⟨t, rfl⟩ := rx
  obtain ⟨t', rfl⟩ := ry
  refine SB.mul ⟨?_, fun n1 n2 z => ?_, fun n1 n2 => ?_⟩ fun t' tk => ⟨.str _, H, I.tok _, ⟨_, rfl⟩, q⟩
  · rw [decide_eq_false (by omega), decide_eq_false (by omega)]; rfl
  · have h4 : (i.length : Int) * k ≤ 16777216 := by
      have e : (i.length : Int) * k = ((i.length * k.toNat : Nat) : Int) := by
        rw [Int.natCast_mul, Int.toNat_of_nonneg h1]
      rw [e]; omega
    have h5 : (i.length : Int) ≤ (2 ^ 63 - 1) / k := by
      rw [Int.le_ediv_iff_mul_le (by omega)]
      omega
    omega
  · exact decide_eq_false (by rw [sizeLine_eq]; omega)
theorem op_catR : OpR X (binaryOp .Add) rCatR := by
  intro pins s σ H x y v u Q I rx ry h
  obtain ⟨l, b, xs, zs, rfl, rfl, hH, hB, hz, q⟩ := h
  cases rx
  cases ry
  obtain ⟨z, its, n, r, e⟩ := hH.ok I.hok
  obtain ⟨z2, its2, n2, r2, e2⟩ := hB.ok I.hok
  have hl := r.length
  have hl2 := r2.length
  refine PySem.P.add_list e e2 ?_ (by rw [List.size_toArray, List.size_toArray]; omega)
  have ea : its.toArray ++ its2.toArray = (its ++ its2).toArray := by simp
  rw [ea]
  exact ⟨.ref _, _, I.lnew (t' := s.toks) (r.append r2) (by rw [List.length_append]; omega), rfl, q _ I.fresh⟩
theorem op_mulL : OpR X (binaryOp .Mult) rMulL := by
  intro pins s σ H x y v u Q I rx ry h
  obtain ⟨l, k, xs, rfl, rfl, hH, h1, h2, h3, q⟩ := h
  cases rx
  obtain ⟨t, rfl⟩ := ry
  obtain ⟨z, its, n, r, e⟩ := hH.ok I.hok
  have hl := r.length
  refine mul_list_raw e h1 h2 (by rw [List.size_toArray]; have : its.length = xs.length := by omega
                                  rw [this]; exact h3) ?_
  have rr : ∀ m : Nat, Vals (List.replicate m xs).flatten (List.replicate m its).flatten := fun m => by
    induction m with
    | zero => exact .nil
    | succ m ih => rw [List.replicate_succ, List.replicate_succ, List.flatten_cons, List.flatten_cons]; exact r.append ih
  exact ⟨.ref _, _, I.lnew (t' := s.toks) (rr k.toNat) (by rw [rep_len, sizeLine_eq]; omega), rfl, q _ I.fresh⟩
theorem op_no {f : Value → Value → Sem Value} : OpR X f rNo := by
  intro pins s σ H x y v u Q I rx ry h
  exact h.elim
theorem op_fdivB : OpR X (binaryOp .FloorDiv) (rI CDivB fun i j => .int (i / j)) := opI fun i j _ _ _ _ _ hc q => by
  have h1 : (0 : Int) < j := hc.1
  have h2 : j.natAbs < 2 ^ 64 := by
    have h3 : j < 18446744073709551616 := by rcases hc.2 with h | h <;> omega
    have : (2 : Nat) ^ 64 = 18446744073709551616 := by decide
    omega
  exact floordiv_int (by omega) (by rw [Int.fdiv_eq_ediv_of_nonneg i (by omega)]; exact q) (.inl (PyProof.noPylong_of_log2 (Nat.lt_of_lt_of_le (PySem.Flt.log2_lt_of (by decide) h2) (by decide))))
theorem op_shl : OpR X (binaryOp .LShift) (rI CShl fun i j => .int (i * 2 ^ j.toNat)) := opI fun i j _ _ _ _ _ hc q => by
  have h2 : (2 : Nat) ^ 64 = 18446744073709551616 := by decide
  exact PyProof.Rows.lshift_int_small hc.1 hc.2.1 (by rw [h2]; exact hc.2.2) q
def rBin (K : PySem.W.Frag) : Operator → R2
  | .Add => fun x y H Q => rI0 (fun i j => .int (i + j)) x y H Q ∨ ((∃ i j, x = .str i ∧ y = .str j ∧ i.length + j.length ≤ sizeLine ∧ Q (.str (i ++ j)) H) ∨ (rCatR x y H Q ∨ rCatA K x y H Q))
  | .Sub => rI0 fun i j => .int (i - j)
  | .Mult => fun x y H Q => rI CMul (fun i j => .int (i * j)) x y H Q ∨ (rMulS x y H Q ∨ rMulL x y H Q)
  | .FloorDiv => rI CDivB fun i j => .int (i / j)
  | .Mod => rI (fun _ j => 0 < j) fun i j => .int (i % j)
  | .Pow => rI CPow fun i j => .int (i ^ j.toNat)
  | .LShift => rI CShl fun i j => .int (i * 2 ^ j.toNat)
  | _ => rNo
theorem opr_bin (o : Operator) : OpR X (binaryOp o) (rBin X.K o) := by
  cases o with
  | Add => exact op_add.or (op_add_str.or (op_catR.or op_catA))
  | Sub => exact op_sub
  | Mult => exact op_mul.or (op_mulS.or op_mulL)
  | FloorDiv => exact op_fdivB
  | Mod => exact op_mod
  | Pow => exact op_pow
  | LShift => exact op_shl
  | _ => exact op_no
theorem le_strR {A : Around} {s : Shared} (a b : Str) (t u : Tok) : Ob.RcOp .LtE A s (.str a t) (.str b u) (!decide (b.cps.toList < a.cps.toList)) := fun prog w E Q h => by
  have := PySem.P.le_str (prog := prog) (w := w) (A := A) (E := E) (s := s) (x := a) (y := b) (t := t) (u := u) (Q := Q) h
  exact this
def rLeS (K : PySem.W.Frag) : R2 := fun x y H Q => ∃ (a b : Addr) (ns ms : List Str), x = .ref a ∧ y = .ref b ∧ SqT K H a (ns.map V.str) ∧ SqT K H b (ms.map V.str) ∧ Q (.bl (leTxt ns ms)) H
theorem op_leS {X : Cx} (hu : X.A.units < cLine) : OpR X (compareOp .LtE) (rLeS X.K) := by
  intro pins s σ H x y v u Q I rx ry h
  obtain ⟨a, b, ns, ms, rfl, rfl, ha, hb, q⟩ := h
  cases rx
  cases ry
  obtain ⟨its, r1, p1, _⟩ := I.tuple ha
  obtain ⟨its2, r2, p2, _⟩ := I.tuple hb
  have i1 : StrsAre its ns := Vals.strs r1
  have i2 : StrsAre its2 ms := Vals.strs r2
  have e1 : its.toArray.size = ns.length := by rw [List.size_toArray]; exact i1.length
  have e2 : its2.toArray.size = ms.length := by rw [List.size_toArray]; exact i2.length
  have at_ : ∀ {vs : List Value} {ys : List Str}, StrsAre vs ys → ∀ j (h1 : j < vs.toArray.size), ∃ t, vs.toArray[j] = .str (ys.getD j Str.empty) t := fun {vs ys} i j h1 => by
    have h1' : j < vs.length := by simpa using h1
    obtain ⟨y, t, e, ey⟩ := StrsAre.item i j vs[j] (List.getElem?_eq_getElem h1')
    refine ⟨t, ?_⟩
    rw [List.getElem_toArray, e, List.getD_eq_getElem?_getD, ey]
    rfl
  have R := Ob.RcOp.tuples_le (A := X.A) (s := s) (e := fun j => ns.getD j Str.empty == ms.getD j Str.empty) (r := fun j => !decide ((ms.getD j Str.empty).cps.toList < (ns.getD j Str.empty).cps.toList)) p1 p2 hu (fun j h1 h2 => by
    obtain ⟨t, et⟩ := at_ i1 j h1
    obtain ⟨t', et'⟩ := at_ i2 j h2
    rw [et, et']
    exact SeqAt.EqAt.str_str _ _ _ _) (fun j h1 h2 _ => by
    obtain ⟨t, et⟩ := at_ i1 j h1
    obtain ⟨t', et'⟩ := at_ i2 j h2
    rw [et, et']
    exact le_strR _ _ _ _)
  rw [e1, e2] at R
  have z : wpAny (model X.prog X.w) X.A (compareOp .LtE (.ref a) (.ref b)) (EP X pins σ Q) X.xe s := R X.prog X.w X.xe (EP X pins σ Q) ⟨.bl _, H, I, rfl, q⟩
  exact z
def rCmp (K : PySem.W.Frag) : CmpOp → R2
  | .Eq => fun x y H Q => rEq x y H Q ∨ rEqD K x y H Q
  | .NotEq => fun x y H Q => rNe x y H Q ∨ rNeD K x y H Q
  | .Lt => rI0 fun i j => .bl (decide (i < j))
  | .LtE => fun x y H Q => (rI0 fun i j => .bl (decide (i ≤ j))) x y H Q ∨ rLeS K x y H Q
  | .Gt => rI0 fun i j => .bl (decide (j < i))
  | .GtE => rI0 fun i j => .bl (decide (j ≤ i))
  | .In => fun x y H Q => (∃ (c : Nat) (z : Str), x = .str ⟨#[c]⟩ ∧ y = .str z ∧ Q (.bl (decide (c ∈ z.cps.toList))) H) ∨
      ((∃ i j, x = .str i ∧ y = .str j ∧ Q (.bl (!(Builtin.Str.occurrences j i 0 j.length 1).isEmpty)) H) ∨ (rIn K false x y H Q ∨ rInD K x y H Q))
  | .NotIn => fun x y H Q => (∃ (c : Nat) (z : Str), x = .str ⟨#[c]⟩ ∧ y = .str z ∧ Q (.bl (!decide (c ∈ z.cps.toList))) H) ∨
      ((∃ i j, x = .str i ∧ y = .str j ∧ Q (.bl (!(!(Builtin.Str.occurrences j i 0 j.length 1).isEmpty))) H) ∨ (rIn K true x y H Q ∨ rNotInD K x y H Q))
  | .Is => fun x y H Q => (y = .non ∧ Q (.bl (decide (x = .non))) H) ∨ (∃ a b, x = .bl a ∧ y = .bl b ∧ Q (.bl (decide (a = b))) H)
  | .IsNot => fun x y H Q => (y = .non ∧ Q (.bl (!decide (x = .non))) H) ∨ (∃ a b, x = .bl a ∧ y = .bl b ∧ Q (.bl (!decide (a = b))) H)
theorem opr_cmp (hu : X.A.units + 65 < cLine) (o : CmpOp) : OpR X (compareOp o) (rCmp X.K o) := by
  cases o with
  | Eq => exact op_eq.or (op_eqD (Nat.lt_of_succ_lt hu))
  | NotEq => exact op_ne.or (op_neD (Nat.lt_of_succ_lt hu))
  | Lt => exact op_lt
  | LtE => exact op_le.or (op_leS (by omega))
  | Gt => exact op_gt
  | GtE => exact op_ge
  | In => exact op_in_sign.or (op_in_str.or (op_in_seq.or (op_inD hu)))
  | NotIn => exact op_notIn_sign.or (op_notin_str.or (op_notIn_seq.or (op_notInD hu)))
  | Is => exact op_isN.or op_is_bl
  | IsNot => exact op_notN.or op_isnot_bl
end
section
variable {T : Tab} {K : PySem.W.Frag} {G : Gh} {H : Hp} {Q : VK} {x y : V} {u v : Vw}
theorem one_of {z : Str} {c : Nat} (h : z.cps.toList = [c]) : z = ⟨#[c]⟩ := by
  obtain ⟨a⟩ := z
  have : a = #[c] := by
    apply Array.ext'
    rw [h]
  rw [this]
theorem bin_ok {o : Operator} {r : R} (e : binV o u v = some r) (hx : VW T K G H x u) (hy : VW T K G H y v) (q : ∀ H' w, NewR T K G H H' w r → Q w H') : rBin K o x y H Q := by
  unfold binV at e
  split at e
  · injection e with e; subst e
    cases hx with | «at» a => cases a with | int i => cases hy with | «at» b => cases b with | int j => exact .inl ⟨_, _, rfl, rfl, q _ _ (.same (.int _))⟩
  · split at e
    · rename_i hz
      injection e with e; subst e
      cases hx with | «at» a => cases a with | str i => cases hy with | «at» b => cases b with | str j => exact .inr (.inl ⟨_, _, rfl, rfl, hz, q _ _ (.same (.str _))⟩)
    · cases e
  · split at e
    · rename_i hz
      injection e with e; subst e
      cases hx with | ls a b => cases hy with | ls c d => exact .inr (.inr (.inl ⟨_, _, _, _, rfl, rfl, a, c, by rw [b.length, d.length]; exact hz, fun p hp => q _ _ (.lst hp (b.append d))⟩))
    · cases e
  · split at e
    · rename_i hz
      injection e with e; subst e
      cases hx with | «at» a => cases a with | tup s1 r1 => cases hy with | «at» b => cases b with | tup s2 r2 =>
        refine .inr (.inr (.inr ⟨_, _, _, _, rfl, rfl, s1, s2, by rw [r1.length, r2.length]; exact hz.2, fun h => ?_, fun h h2 => ?_, fun h h2 p hp => q _ _ (.tup hp (r1.append r2))⟩))
        · subst h; cases r1; exact absurd hz.1.1 (by decide)
        · subst h2; cases r2; exact absurd hz.1.2 (by decide)
    · cases e
  · injection e with e; subst e
    cases hx with | «at» a => cases a with | int i => cases hy with | «at» b => cases b with | int j => exact ⟨_, _, rfl, rfl, q _ _ (.same (.int _))⟩
  · split at e
    · rename_i hz
      injection e with e; subst e
      cases hx with | «at» a => cases a with | int i => cases hy with | «at» b => cases b with | int j => exact .inl ⟨_, _, rfl, rfl, hz, q _ _ (.same (.int _))⟩
    · cases e
  · split at e
    · rename_i hz
      injection e with e; subst e
      cases hx with | «at» a => cases a with | str i => cases hy with | «at» b => cases b with | int j => exact .inr (.inl ⟨_, _, rfl, rfl, hz.1, hz.2.1, hz.2.2, q _ _ (.same (.str _))⟩)
    · cases e
  · split at e
    · rename_i hz
      injection e with e; subst e
      cases hx with | ls a b => cases hy with | «at» c => cases c with | int j =>
        have rr : ∀ m : Nat, RVs T K G H (List.replicate m _).flatten (List.replicate m _).flatten := fun m => by
          induction m with
          | zero => exact .nil
          | succ m ih => rw [List.replicate_succ, List.replicate_succ, List.flatten_cons, List.flatten_cons]; exact b.append ih
        exact .inr (.inr ⟨_, _, _, rfl, rfl, a, hz.1, hz.2.1, by rw [b.length]; exact hz.2.2, fun p hp => q _ _ (.lst hp (rr _))⟩)
    · cases e
  all_goals first
    | (split at e
       · rename_i hz
         injection e with e; subst e
         cases hx with | «at» a => cases a with | int i => cases hy with | «at» b => cases b with | int j => exact ⟨_, _, rfl, rfl, hz, q _ _ (.same (.int _))⟩
       · cases e)
    | (cases e)
theorem eq_ok {t : Bool} (e : eqW u v = some t) (hx : VW T K G H x u) (hy : VW T K G H y v) : (scal x y = true ∧ decide (x = y) = t) ∨ ∃ d e', Dp K H x d ∧ Dp K H y e' ∧ SeqAt.shaped d = true ∧ SeqAt.shaped e' = true ∧ PyData.eqv d e' = t := by
  unfold eqW at e
  split at e
  · rename_i a b h1 h2
    split at e
    · rename_i hs
      injection e with e; subst e
      rw [hx.scal h1, hy.scal h2]
      exact .inl ⟨hs, rfl⟩
    · cases e
  · split at e
    · rename_i p q h1 h2
      split at e
      · rename_i hs
        injection e with e; subst e
        exact .inr ⟨p, q, hx.dp h1, hy.dp h2, hs.1, hs.2, rfl⟩
      · cases e
    · cases e
theorem in_ok {t : Bool} (e : inW u v = some t) (hx : VW T K G H x u) (hy : VW T K G H y v) : (∃ (c : Nat) (z : Str), x = .str ⟨#[c]⟩ ∧ y = .str z ∧ decide (c ∈ z.cps.toList) = t) ∨
      ((∃ i j, x = .str i ∧ y = .str j ∧ (!(Builtin.Str.occurrences j i 0 j.length 1).isEmpty) = t) ∨ (∃ p xs, y = .ref p ∧ (SqL K H p xs ∨ SqT K H p xs) ∧ flatV x = true ∧ xs.all flatV = true ∧ inV x xs = t)) := by
  unfold inW at e
  split at e
  · rename_i i j
    cases hx with | «at» a => cases a with | str i => cases hy with | «at» b => cases b with | str j =>
    split at e
    · rename_i c hc
      injection e with e; subst e
      rw [one_of hc]
      exact .inl ⟨c, _, rfl, rfl, rfl⟩
    · injection e with e; subst e
      exact .inr (.inl ⟨_, _, rfl, rfl, rfl⟩)
  · split at e
    · rename_i a b h1 h2
      split at e
      · rename_i hf
        injection e with e; subst e
        cases hx with | «at» p => cases hy with | «at» q => cases q with | tup s r =>
          obtain ⟨rfl, al⟩ := flats_of r h2
          rw [p.scal h1]
          exact .inr (.inr ⟨_, _, rfl, .inr s, hf, al, rfl⟩)
      · cases e
    · cases e
  · split at e
    · rename_i a b h1 h2
      split at e
      · rename_i hf
        injection e with e; subst e
        cases hx with | «at» p => cases hy with | ls s r =>
          obtain ⟨rfl, al⟩ := flats_of r h2
          rw [p.scal h1]
          exact .inr (.inr ⟨_, _, rfl, .inl (.inl s), hf, al, rfl⟩)
      · cases e
    · cases e
  · cases e
theorem is_ok {t : Bool} (e : isW u v = some t) (hx : VW T K G H x u) (hy : VW T K G H y v) : (y = .non ∧ decide (x = .non) = t) ∨ (∃ a b, x = .bl a ∧ y = .bl b ∧ decide (a = b) = t) := by
  unfold isW at e
  split at e
  · cases hy with | «at» b => cases b with | non =>
    refine .inl ⟨rfl, ?_⟩
    split at e
    · injection e with e; subst e
      cases hx with | «at» p => cases p; rfl
    · rename_i d hd
      injection e with e; subst e
      cases hx with | «at» p => cases p <;> first | rfl | exact (hd rfl).elim
    · injection e with e; subst e
      cases hx; rfl
    · injection e with e; subst e
      cases hx <;> rfl
    · injection e with e; subst e
      cases hx <;> rfl
    · cases e
  · cases hy with | «at» b => cases b with | bl j =>
    split at e
    · injection e with e; subst e
      cases hx with | «at» p => cases p with | bl i => exact .inr ⟨_, _, rfl, rfl, rfl⟩
    · cases e
  · cases e
theorem cmp_ok {o : CmpOp} {t : Bool} (e : cmpV o u v = some t) (hx : VW T K G H x u) (hy : VW T K G H y v) (q : Q (.bl t) H) : rCmp K o x y H Q := by
  unfold cmpV at e
  cases o with
  | Eq =>
    rcases eq_ok e hx hy with ⟨a, b⟩ | ⟨d, e', a, b, c, f, g⟩
    · subst b; exact .inl ⟨a, q⟩
    · subst g; exact .inr ⟨d, e', a, b, c, f, q⟩
  | NotEq =>
    cases h : eqW u v with
    | none => rw [h] at e; cases e
    | some t' =>
      rw [h] at e
      injection e with e
      subst e
      rcases eq_ok h hx hy with ⟨a, b⟩ | ⟨d, e', a, b, c, f, g⟩
      · subst b; exact .inl ⟨a, q⟩
      · subst g; exact .inr ⟨d, e', a, b, c, f, q⟩
  | In =>
    rcases in_ok e hx hy with ⟨c, z, a, b, g⟩ | ⟨i, j, a, b, g⟩ | ⟨p, xs, a, b, c, d, g⟩
    · subst g; exact .inl ⟨c, z, a, b, q⟩
    · subst g; exact .inr (.inl ⟨i, j, a, b, q⟩)
    · subst g; exact .inr (.inr (.inl ⟨p, xs, a, b, c, d, q⟩))
  | NotIn =>
    cases h : inW u v with
    | none => rw [h] at e; cases e
    | some t' =>
      rw [h] at e
      injection e with e
      subst e
      rcases in_ok h hx hy with ⟨c, z, a, b, g⟩ | ⟨i, j, a, b, g⟩ | ⟨p, xs, a, b, c, d, g⟩
      · subst g; exact .inl ⟨c, z, a, b, q⟩
      · subst g; exact .inr (.inl ⟨i, j, a, b, q⟩)
      · subst g; exact .inr (.inr (.inl ⟨p, xs, a, b, c, d, q⟩))
  | Is =>
    rcases is_ok e hx hy with ⟨a, b⟩ | ⟨a, b, c, d, g⟩
    · subst b; exact .inl ⟨a, q⟩
    · subst g; exact .inr ⟨a, b, c, d, q⟩
  | IsNot =>
    cases h : isW u v with
    | none => rw [h] at e; cases e
    | some t' =>
      rw [h] at e
      injection e with e
      subst e
      rcases is_ok h hx hy with ⟨a, b⟩ | ⟨a, b, c, d, g⟩
      · subst b; exact .inl ⟨a, q⟩
      · subst g; exact .inr ⟨a, b, c, d, q⟩
  | LtE =>
    dsimp only at e
    split at e
    · injection e with e; subst e
      cases hx with | «at» a => cases a with | int i => cases hy with | «at» b => cases b with | int j => exact .inl ⟨_, _, rfl, rfl, q⟩
    · split at e
      · rename_i h1 h2
        injection e with e; subst e
        cases hx with | «at» a => cases a with | tup s1 r1 => cases hy with | «at» b => cases b with | tup s2 r2 =>
          rw [r1.txts h1] at s1
          rw [r2.txts h2] at s2
          exact .inr ⟨_, _, _, _, rfl, rfl, s1, s2, q⟩
      · cases e
    · cases e
  | Lt | Gt | GtE =>
    all_goals
      dsimp only at e
      split at e
      · injection e with e; subst e
        cases hx with | «at» a => cases a with | int i => cases hy with | «at» b => cases b with | int j => exact ⟨_, _, rfl, rfl, q⟩
      · cases e
end
end BB

namespace BB
open PySem PySem.Spec PyProof.Rows L2
section
variable (T : Tab) (K : PySem.W.Frag) (B : Bs) (W : WX)
abbrev PP (α β : Type) := S → Hp → Gh → S → St → Hp → β → α → Prop
def At {α β : Type} (P : PP α β) (o : Oc α) (G : Gh) (s : S) (σ : St) (H : Hp) (Q : β → Hp → Prop) : Prop := match o with
  | .ok a s' => ∀ G' H' b, Stp σ G s H G' s' H' → Rel T K B G' s' σ H' → P s H G' s' σ H' b a → Q b H'
  | .ex n fs s' => ∀ G' H' cls d, Pers G H G' H' → Rel T K B G' s' σ H' → ExR T K n fs cls d G' H' → W cls d σ H'
  | .bad => False
def tG {α β : Type} (P : PP α β) (c : S → Oc α) : St → Hp → (β → Hp → Prop) → Prop := fun σ H Q => ∃ G s, Rel T K B G s σ H ∧ At T K B W P (c s) G s σ H Q
def PR : PP R V := fun s0 H0 G s σ H v r => RR T K B s0 H0 G s σ H v r
def PRs : PP (List R) (List V) := fun s0 H0 G s σ H v r => RRs T K B s0 H0 G s σ H v r
def PB : PP Bool Bool := fun _ _ _ _ _ _ b a => b = a
def PO1 : PP (Option Int) (Option Int) := fun _ _ _ _ _ _ b a => b = a
abbrev tE (c : S → Oc R) : TE := tG T K B W (PR T K B) c
abbrev tL (c : S → Oc (List R)) : TA := tG T K B W (PRs T K B) c
abbrev tT (c : S → Oc Bool) : TT := tG T K B W PB c
end
structure Back {α β : Type} (P : PP α β) : Prop where
  h : ∀ {σ : St} {G0 G1 G2 : Gh} {s0 s1 s2 : S} {H0 H1 H2 : Hp} {b : β} {a : α}, P s1 H1 G2 s2 σ H2 b a → Stp σ G0 s0 H0 G1 s1 H1 → P s0 H0 G2 s2 σ H2 b a
section
variable {T : Tab} {K : PySem.W.Frag} {B : Bs} {W : WX}
theorem back_R : Back (PR T K B) := ⟨fun h p => RR.back h p⟩
theorem back_Rs : Back (PRs T K B) := ⟨fun h p => RRs.back p h⟩
theorem back_B : Back PB := ⟨fun h _ => h⟩
theorem back_O : Back PO1 := ⟨fun h _ => h⟩
theorem Stp.pers {σ : St} {G G' : Gh} {s s' : S} {H H' : Hp} (p : Stp σ G s H G' s' H') : Pers G H G' H' := p.p
theorem at_bind {α1 α2 β1 β2 : Type} {P1 : PP α1 β1} {P2 : PP α2 β2} {o : Oc α1} {f : α1 → S → Oc α2} {G0 G : Gh} {s0 s : S} {σ : St} {H0 H : Hp} {Q : β2 → Hp → Prop} {Q1 : β1 → Hp → Prop}
    (h : At T K B W P2 (o.bind f) G0 s0 σ H0 Q) (p0 : Stp σ G0 s0 H0 G s H) (k : ∀ a s1 G1 H1 b1, Stp σ G s H G1 s1 H1 → Stp σ G0 s0 H0 G1 s1 H1 → Rel T K B G1 s1 σ H1 → P1 s H G1 s1 σ H1 b1 a → At T K B W P2 (f a s1) G0 s0 σ H0 Q → Q1 b1 H1) : At T K B W P1 o G s σ H Q1 := by
  cases o with
  | ok a s1 => exact fun G1 H1 b1 st R1 p1 => k a s1 G1 H1 b1 st (p0.trans st) R1 p1 h
  | ex n fs s1 => exact fun G' H' cls d p R x => h G' H' cls d (p0.p.trans p) R x
  | bad => exact h
theorem at_start {α β : Type} {P : PP α β} {o : Oc α} {G : Gh} {s : S} {σ : St} {H : Hp} : Stp σ G s H G s H := .refl _ _ _ _
/-- a tail call -/
theorem at_tail {α β : Type} {P : PP α β} (hb : Back P) {o : Oc α} {G0 G : Gh} {s0 s : S} {σ : St} {H0 H : Hp} {Q : β → Hp → Prop} (h : At T K B W P o G0 s0 σ H0 Q) (p0 : Stp σ G0 s0 H0 G s H) : At T K B W P o G s σ H Q := by
  cases o with
  | ok a s1 => exact fun G1 H1 b1 st R1 p1 => h G1 H1 b1 (p0.trans st) R1 (hb.h p1 p0)
  | ex n fs s1 => exact fun G' H' cls d p R x => h G' H' cls d (p0.p.trans p) R x
  | bad => exact h
theorem at_imp {α β : Type} {P : PP α β} {o : Oc α} {G : Gh} {s : S} {σ : St} {H : Hp} {Q Q' : β → Hp → Prop} (q : At T K B W P o G s σ H Q) (h : ∀ b H, Q b H → Q' b H) : At T K B W P o G s σ H Q' := by
  cases o with
  | ok a s' => exact fun G' H' b st R p => h _ _ (q G' H' b st R p)
  | ex n fs s' => exact q
  | bad => exact q
theorem pe_imp {X : Cx} {e : Expr} {t t' : TE} (h : PE X e t) (i : ∀ σ H Q, t' σ H Q → t σ H Q) : PE X e t' := ⟨fun pins s σ H Q I q => h.run pins s σ H Q I (i σ H Q q)⟩
theorem pt_imp {X : Cx} {e : Expr} {t t' : TT} (h : PT X e t) (i : ∀ σ H Q, t' σ H Q → t σ H Q) : PT X e t' := ⟨fun pins s σ H Q I q => h.run pins s σ H Q I (i σ H Q q)⟩
theorem pw_imp {X : Cx} {e : Expr} {t t' : TT} (h : PW X e t) (i : ∀ σ H Q, t' σ H Q → t σ H Q) : PW X e t' := ⟨fun wh pins s σ H Q I q => h.run wh pins s σ H Q I (i σ H Q q)⟩
theorem pa_imp {X : Cx} {e : List Expr} {t t' : TA} (h : PA X e t) (i : ∀ σ H Q, t' σ H Q → t σ H Q) : PA X e t' := ⟨fun pos pins s σ H Q I q => h.run pos pins s σ H Q I (i σ H Q q)⟩
theorem ps_imp {X : Cx} {e : Stmt} {t t' : TS} (h : PS X e t) (i : ∀ D σ H, t' D σ H → t D σ H) : PS X e t' := ⟨fun pins s σ H D I q => h.run pins s σ H D I (i D σ H q)⟩
theorem pss_imp {X : Cx} {e : List Stmt} {t t' : TS} (h : PSs X e t) (i : ∀ D σ H, t' D σ H → t D σ H) : PSs X e t' := ⟨fun pins s σ H D I q => h.run pins s σ H D I (i D σ H q)⟩

/-! keeping results: the fresh ones are frozen -/
section keep
variable {σ : St} {G G0 : Gh} {s s0 : S} {H H0 : Hp}
def addF (G : Gh) (A : Addr → Prop) : Gh := ⟨G.io, fun a => G.F a ∨ A a⟩
/-- freezing fresh objects -/
theorem freeze {A : Addr → Prop} (hR : Rel T K B G s σ H) (p : Stp σ G0 s0 H0 G s H) (hA : ∀ a, A a → (∃ o, H a = some o) ∧ Fresh B s0 H0 G s σ H a) :
    Stp σ G0 s0 H0 (addF G A) s H ∧ Rel T K B (addF G A) s σ H ∧ Pers G H (addF G A) H := by
  have P : Pers G H (addF G A) H := ⟨fun _ _ h => h, fun _ h => .inl h, fun _ _ => rfl, fun _ _ h => h, fun _ _ _ h => h, fun _ _ h => h⟩
  refine ⟨⟨p.p.trans P, p.keep, p.dom, p.nio, fun a h n => ?_, p.ow⟩, ⟨hR.len, fun i x e => (hR.sl i x e).mono P fun _ _ _ _ q => q, fun a h => ⟨fun z => ?_, (hR.own1 a h).2⟩, hR.own2, ⟨hR.c.len, fun i o a e1 e2 => (hR.c.bx i o a e1 e2).mono P fun _ q => q, hR.c.nd, fun a h z => ?_, fun a h => ?_⟩,
    ⟨hR.b.p.trans P, hR.b.keep, hR.b.dom, hR.b.nio, fun a h n => ?_⟩⟩, P⟩
  · rcases h with h | h
    · exact p.nF a h n
    · exact (hA a h).2.st
  · rcases z with z | z
    · exact (hR.own1 a h).1 z
    · exact (hA a z).2.now h
  · rcases z with z | z
    · exact hR.c.ioF a h z
    · exact (hA a z).2.nio h
  · rcases h with h | h
    · exact hR.c.Fd a h
    · obtain ⟨o, e⟩ := (hA a h).1
      rw [e]; simp
  · rcases h with h | h
    · exact hR.b.nF a h n
    · exact (hA a h).2.bn
def frR (v : V) (r : R) (a : Addr) : Prop := v = .ref a ∧ ((∃ l, r = .fl l) ∨ ∃ t l, r = .fd t l)
theorem RR.frA {v : V} {r : R} {a : Addr} (h : RR T K B s0 H0 G s σ H v r) (z : frR v r a) : (∃ o, H a = some o) ∧ Fresh B s0 H0 G s σ H a := by
  obtain ⟨rfl, z⟩ := z
  cases h with
  | va _ => rcases z with ⟨_, z⟩ | ⟨_, _, z⟩ <;> cases z
  | fl e _ f => exact ⟨⟨_, e⟩, f⟩
  | fdK e _ f => exact ⟨⟨_, e⟩, f⟩
  | fdT e _ f => exact ⟨⟨_, e⟩, f⟩
  | own _ => rcases z with ⟨_, z⟩ | ⟨_, _, z⟩ <;> cases z
theorem RR.kept {v : V} {r : R} {d : D} {A : Addr → Prop} (h : RR T K B s0 H0 G s σ H v r) (e : keepR r = some d) (hA : ∀ a, frR v r a → A a) : RV T K (addF G A) H v d := by
  have P : Pers G H (addF G A) H := ⟨fun _ _ h => h, fun _ h => .inl h, fun _ _ => rfl, fun _ _ h => h, fun _ _ _ h => h, fun _ _ h => h⟩
  cases h with
  | va q => injection e with e; subst e; exact q.mono P
  | fl e1 q f => injection e with e; subst e; exact .lst (.inr (hA _ ⟨rfl, .inl ⟨_, rfl⟩⟩)) e1 (q.mono P)
  | fdK e1 q f => injection e with e; subst e; exact .dcK (.inr (hA _ ⟨rfl, .inr ⟨_, _, rfl⟩⟩)) e1 (q.mono P)
  | fdT e1 q f => injection e with e; subst e; exact .dcT (.inr (hA _ ⟨rfl, .inr ⟨_, _, rfl⟩⟩)) e1 (q.mono P)
  | own _ => cases e
theorem keep1 {v : V} {r : R} {d : D} (hR : Rel T K B G s σ H) (p : Stp σ G0 s0 H0 G s H) (h : RR T K B s0 H0 G s σ H v r) (e : keepR r = some d) :
    ∃ G', Stp σ G0 s0 H0 G' s H ∧ Rel T K B G' s σ H ∧ RV T K G' H v d :=
  let A := fun a => frR v r a
  let ⟨a, b, _⟩ := freeze (A := A) hR p fun a z => h.frA z
  ⟨addF G A, a, b, h.kept e fun _ z => z⟩
theorem keep1p {v : V} {r : R} {d : D} (hR : Rel T K B G s σ H) (p : Stp σ G0 s0 H0 G s H) (h : RR T K B s0 H0 G s σ H v r) (e : keepR r = some d) :
    ∃ G', Stp σ G0 s0 H0 G' s H ∧ Rel T K B G' s σ H ∧ RV T K G' H v d ∧ Pers G H G' H :=
  let A := fun a => frR v r a
  let ⟨a, b, c⟩ := freeze (A := A) hR p fun a z => h.frA z
  ⟨addF G A, a, b, h.kept e fun _ z => z, c⟩
def frRs : List V → List R → Addr → Prop
  | v :: vs, r :: rs, a => frR v r a ∨ frRs vs rs a
  | _, _, _ => False
theorem RRs.frA {a : Addr} : ∀ {vs : List V} {rs : List R}, RRs T K B s0 H0 G s σ H vs rs → frRs vs rs a → (∃ o, H a = some o) ∧ Fresh B s0 H0 G s σ H a
  | _, _, .nil, z => z.elim
  | _, _, .cons q t, z => z.elim (fun z => q.frA z) fun z => RRs.frA t z
theorem RRs.kept {A : Addr → Prop} : ∀ {vs : List V} {rs : List R} {ds : List D}, RRs T K B s0 H0 G s σ H vs rs → keepRs rs = some ds → (∀ a, frRs vs rs a → A a) → RVs T K (addF G A) H vs ds
  | _, _, _, .nil, e, _ => by injection e with e; subst e; exact .nil
  | _, _, _, .cons q t, e, hA => by
    unfold keepRs at e
    split at e
    · rename_i d ds h1 h2
      injection e with e; subst e
      exact .cons (q.kept h1 fun a z => hA a (.inl z)) (RRs.kept t h2 fun a z => hA a (.inr z))
    · cases e
theorem keepN {vs : List V} {rs : List R} {ds : List D} (hR : Rel T K B G s σ H) (p : Stp σ G0 s0 H0 G s H) (h : RRs T K B s0 H0 G s σ H vs rs) (e : keepRs rs = some ds) :
    ∃ G', Stp σ G0 s0 H0 G' s H ∧ Rel T K B G' s σ H ∧ RVs T K G' H vs ds :=
  let A := fun a => frRs vs rs a
  let ⟨a, b, _⟩ := freeze (A := A) hR p fun a z => h.frA z
  ⟨addF G A, a, b, h.kept e fun _ z => z⟩
theorem keepNp {vs : List V} {rs : List R} {ds : List D} (hR : Rel T K B G s σ H) (p : Stp σ G0 s0 H0 G s H) (h : RRs T K B s0 H0 G s σ H vs rs) (e : keepRs rs = some ds) :
    ∃ G', Stp σ G0 s0 H0 G' s H ∧ Rel T K B G' s σ H ∧ RVs T K G' H vs ds ∧ Pers G H G' H :=
  let A := fun a => frRs vs rs a
  let ⟨a, b, c⟩ := freeze (A := A) hR p fun a z => h.frA z
  ⟨addF G A, a, b, h.kept e fun _ z => z, c⟩
theorem RRs.views : ∀ {vs : List V} {rs : List R} {ws : List Vw}, Rel T K B G s σ H → RRs T K B s0 H0 G s σ H vs rs → views s rs = some ws → Paired (VW T K G H) vs ws
  | _, _, _, _, .nil, e => by injection e with e; subst e; exact .nil
  | _, _, _, hR, .cons q t, e => by
    unfold BB.views at e
    split at e
    · rename_i d ds h1 h2
      injection e with e; subst e
      exact .cons (view_ok hR q h1) (RRs.views hR t h2)
    · cases e
end keep

/-! seen through boxes -/
section boxes
variable {G : Gh} {st : Sto} {H : Hp}
theorem dpl_of {k : Nat} (ih : ∀ (d : D) (v : V) (p : PyData), RV T K G H v d → toP (unb st k d) = some p → Dp K H v p) : ∀ (ds : List D) {vs : List V} {ps : List PyData}, RVs T K G H vs ds → toPs (ds.map (unb st k)) = some ps → DpAll K H vs ps
  | [], _, _, .nil, e => by injection e with e; subst e; exact .nil
  | d :: ds, _, _, .cons r t, e => by
    rw [List.map_cons] at e
    unfold toPs at e
    split at e
    · rename_i p ps h1 h2; injection e with e; subst e; exact .cons (ih d _ _ r h1) (dpl_of ih ds t h2)
    · cases e
theorem toP_tup {l : List D} {p : PyData} (e : toP (.tup l) = some p) : ∃ ps, toPs l = some ps ∧ p = .tuple ps := by
  unfold toP at e
  split at e
  · rename_i ps h; injection e with e; exact ⟨ps, h, e.symm⟩
  · cases e
theorem toP_ktup {l : List D} {p : PyData} (e : toP (.ktup l) = some p) : ∃ ps, toPs l = some ps ∧ p = .tuple ps := by
  unfold toP at e
  split at e
  · rename_i ps h; injection e with e; exact ⟨ps, h, e.symm⟩
  · cases e
theorem toP_lst {l : List D} {p : PyData} (e : toP (.lst l) = some p) : ∃ ps, toPs l = some ps ∧ p = .list ps := by
  unfold toP at e
  split at e
  · rename_i ps h; injection e with e; exact ⟨ps, h, e.symm⟩
  · cases e
theorem dpb_ref (c : RelC T K G st H) {k i : Nat} {a : Addr} {p : PyData} (ih : ∀ (d : D) (v : V) (p : PyData), RV T K G H v d → toP (unb st k d) = some p → Dp K H v p) (hi : G.io[i]? = some a) (e : toP (unb st (k + 1) (.ref i)) = some p) : Dp K H (.ref a) p := by
  have e : toP (match st[i]? with
      | some (.ls l) => D.lst (l.map (unb st k))
      | some (.lkl l) => .lst (l.map (unb st k))
      | _ => .ref i) = some p := e
  split at e
  · rename_i l hl
    obtain ⟨ps, h, rfl⟩ := toP_lst e
    cases c.bx _ _ _ hl hi with
    | ls e1 r => exact .lst (.inl (.inl e1)) (dpl_of ih _ r h)
  · rename_i l hl
    obtain ⟨ps, h, rfl⟩ := toP_lst e
    cases c.bx _ _ _ hl hi with
    | lkl e1 r => exact .lst (.inl (.inr ⟨_, e1⟩)) (dpl_of ih _ r h)
  · cases e
theorem dpb_of (c : RelC T K G st H) : ∀ (k : Nat) (d : D) (v : V) (p : PyData), RV T K G H v d → toP (unb st k d) = some p → Dp K H v p
  | 0, d, v, p, r, e => dp_of d r e
  | k + 1, d, v, p, r, e => by
    cases r with
    | tup q r => obtain ⟨ps, h, rfl⟩ := toP_tup e; exact .tup (.inl (.inl q)) (dpl_of (dpb_of c k) _ r h)
    | ktup q r => obtain ⟨ps, h, rfl⟩ := toP_ktup e; exact .tup (q H) (dpl_of (dpb_of c k) _ r h)
    | lst f q r => obtain ⟨ps, h, rfl⟩ := toP_lst e; exact .lst (.inl (.inl q)) (dpl_of (dpb_of c k) _ r h)
    | ref hi => exact dpb_ref c (dpb_of c k) hi e
    | non => injection e with e; subst e; exact .non
    | bl b => injection e with e; subst e; exact .bl b
    | int b => injection e with e; subst e; exact .int b
    | str b => injection e with e; subst e; exact .str b
    | _ => cases e
theorem VW.dpb (c : RelC T K G st H) {v : V} {p : PyData} {w : Vw} {k : Nat} (h : VW T K G H v w) (e : (w.unb st (k + 1)).toP = some p) : Dp K H v p := by
  cases h with
  | «at» q =>
    have e : toP (BB.unb st (k + 1) _) = some p := e
    cases q with
    | tup q r => obtain ⟨ps, h, rfl⟩ := toP_tup e; exact .tup q (dpl_of (dpb_of c k) _ r h)
    | ref hi => exact dpb_ref c (dpb_of c k) hi e
    | non => injection e with e; subst e; exact .non
    | bl b => injection e with e; subst e; exact .bl b
    | int b => injection e with e; subst e; exact .int b
    | str b => injection e with e; subst e; exact .str b
    | _ => cases e
  | ls q r =>
    obtain ⟨ps, h, rfl⟩ := toP_lst e
    exact .lst (.inl q) (dpl_of (dpb_of c (k + 1)) _ r h)
  | sc _ _ => cases e
  | dcK _ _ => cases e
  | dcT _ _ => cases e
  | dlK _ _ => cases e
  | dlT _ _ => cases e
theorem eqb_ok (c : RelC T K G st H) {x y : V} {u v : Vw} {t : Bool} (e : eqB st u v = some t) (hx : VW T K G H x u) (hy : VW T K G H y v) : ∃ d e', Dp K H x d ∧ Dp K H y e' ∧ SeqAt.shaped d = true ∧ SeqAt.shaped e' = true ∧ PyData.eqv d e' = t := by
  unfold eqB eqP at e
  split at e
  · rename_i p q h1 h2
    split at e
    · rename_i hs
      injection e with e; subst e
      exact ⟨p, q, hx.dpb c h1, hy.dpb c h2, hs.1, hs.2, rfl⟩
    · cases e
  · cases e
theorem inb_ok (c : RelC T K G st H) {x y : V} {u v : Vw} {t : Bool} (e : inB st u v = some t) (hx : VW T K G H x u) (hy : VW T K G H y v) : ∃ d ds, Dp K H x d ∧ Dp K H y (.list ds) ∧ SeqAt.shaped d = true ∧ SeqAt.shaped (.list ds) = true ∧ (ds.any fun z => PyData.eqv z d) = t := by
  unfold inB inP at e
  split at e
  · rename_i p ds h1 h2
    split at e
    · rename_i hs
      injection e with e; subst e
      exact ⟨p, ds, hx.dpb c h1, hy.dpb c h2, hs.1, hs.2, rfl⟩
    · cases e
  · cases e
theorem cmpS_ok (c : RelC T K G st H) {o : CmpOp} {x y : V} {u v : Vw} {t : Bool} {Q : VK} (e : cmpS st o u v = some t) (hx : VW T K G H x u) (hy : VW T K G H y v) (q : Q (.bl t) H) : rCmp K o x y H Q := by
  unfold cmpS at e
  split at e
  · cases h : eqW u v with
    | some t' =>
      rw [h] at e
      injection e with e
      subst e
      exact cmp_ok (o := .Eq) h hx hy q
    | none =>
      rw [h] at e
      obtain ⟨d, e', a, b, c, f, g⟩ := eqb_ok c e hx hy
      subst g
      exact .inr ⟨d, e', a, b, c, f, q⟩
  · cases h : eqW u v with
    | some t' =>
      rw [h] at e
      exact cmp_ok (o := .NotEq) (u := u) (v := v) (t := t) (show (eqW u v).map (!·) = some t by rw [h]; exact e) hx hy q
    | none =>
      rw [h] at e
      have e : (eqB st u v).map (!·) = some t := e
      cases h2 : eqB st u v with
      | none => rw [h2] at e; cases e
      | some t' =>
        rw [h2] at e
        injection e with e
        subst e
        obtain ⟨d, e', a, b, c, f, g⟩ := eqb_ok c h2 hx hy
        subst g
        exact .inr ⟨d, e', a, b, c, f, q⟩
  · cases h : inW u v with
    | some t' =>
      rw [h] at e
      injection e with e
      subst e
      exact cmp_ok (o := .In) h hx hy q
    | none =>
      rw [h] at e
      obtain ⟨d, e', a, b, c, f, g⟩ := inb_ok c e hx hy
      subst g
      exact .inr (.inr (.inr ⟨d, e', a, b, c, f, q⟩))
  · cases h : inW u v with
    | some t' =>
      rw [h] at e
      exact cmp_ok (o := .NotIn) (u := u) (v := v) (t := t) (show (inW u v).map (!·) = some t by rw [h]; exact e) hx hy q
    | none =>
      rw [h] at e
      have e : (inB st u v).map (!·) = some t := e
      cases h2 : inB st u v with
      | none => rw [h2] at e; cases e
      | some t' =>
        rw [h2] at e
        injection e with e
        subst e
        obtain ⟨d, e', a, b, c, f, g⟩ := inb_ok c h2 hx hy
        subst g
        exact .inr (.inr (.inr ⟨d, e', a, b, c, f, q⟩))
  · exact cmp_ok e hx hy q
end boxes
/-! the simple expressions -/
variable {X : Cx}
theorem sE_val {e : Expr} {v : V} {d : D} (h : PE X e (tC v)) (hv : ∀ G H, RV T K G H v d) : PE X e (tE T K B W fun s => .ok (.va d) s) :=
  pe_imp h fun σ H Q ⟨G, s, hR, q⟩ => q G H v (.refl _ _ _ _) hR (.va (hv G H))
theorem sE_var {i : Nat} {x : Str} {p : Pos} (h : PE X (.Name x p) (tVar i)) : PE X (.Name x p) (tE T K B W fun s => match s.env[i]? with
    | some (.va d) => .ok (.va d) s
    | some (.ol _) => .ok (.own i) s
    | some (.od _ _) => .ok (.own i) s
    | _ => .bad) := pe_imp h fun σ H Q ⟨G, s, hR, q⟩ => by
  revert q
  dsimp only
  split
  · rename_i d e
    intro q
    have z := hR.sl _ _ e
    cases z' : σ[i]? with
    | none => rw [z'] at z; cases z
    | some o => rw [z'] at z; cases z with
      | va r => exact ⟨_, z', q G H _ (.refl _ _ _ _) hR (.va r)⟩
  · rename_i d e
    intro q
    have z := hR.sl _ _ e
    cases z' : σ[i]? with
    | none => rw [z'] at z; cases z
    | some o => rw [z'] at z; cases z with
      | ol r t => exact ⟨_, z', q G H _ (.refl _ _ _ _) hR (.own z')⟩
  · rename_i d e
    intro q
    have z := hR.sl _ _ e
    cases z' : σ[i]? with
    | none => rw [z'] at z; cases z
    | some o => rw [z'] at z; cases z with
      | odK r t => exact ⟨_, z', q G H _ (.refl _ _ _ _) hR (.own z')⟩
      | odT r t => exact ⟨_, z', q G H _ (.refl _ _ _ _) hR (.own z')⟩
  · exact fun q => q.elim
theorem tupE_ok {o : Operator} {x y r : R} {v1 v2 : V} {s0 s0' : S} {H0 H0' : Hp} {G : Gh} {s : S} {σ : St} {H : Hp} {Q : VK} (e : tupE o x y = some r) (h1 : RR T K B s0 H0 G s σ H v1 x) (h2 : RR T K B s0' H0' G s σ H v2 y) (q : ∀ w, RR T K B s0' H0' G s σ H w r → Q w H) : rBin K o v1 v2 H Q := by
  unfold tupE at e
  split at e
  · split at e <;> first | (cases e; done) | skip
    rename_i hz
    injection e with e; subst e
    cases h1 with | va a => cases a with | tup s1 r1 => cases h2 with | va b => cases b with | tup s2 r2 =>
      cases r1
      exact .inr (.inr (.inr ⟨_, _, _, _, rfl, rfl, .inl (.inl s1), .inl (.inl s2), (by rw [r2.length]; simpa using hz), fun h => q _ (.va (.tup s2 r2)), fun h h2 => absurd rfl h, fun h _ p hp => absurd rfl h⟩))
  · split at e <;> first | (cases e; done) | skip
    rename_i hz
    injection e with e; subst e
    cases h1 with | va a => cases a with | tup s1 r1 => cases h2 with | va b => cases b with | tup s2 r2 =>
      cases r2
      refine .inr (.inr (.inr ⟨_, _, _, _, rfl, rfl, .inl (.inl s1), .inl (.inl s2), (by rw [r1.length]; simpa using hz), fun h => ?_, fun h h2 => q _ (.va (.tup s1 r1)), fun h h2 p hp => absurd rfl h2⟩))
      subst h
      cases r1
      exact q _ (.va (.tup s2 .nil))
  · cases e
theorem sE_bin {a b : Expr} {ca cb : S → Oc R} {o : Operator} {p : Pos} (ha : PE X a (tE T X.K B W ca)) (hb : PE X b (tE T X.K B W cb)) :
    PE X (.BinOp a o b p) (tE T X.K B W fun s => (ca s).bind fun x s1 => (cb s1).bind fun y s2 => match tupE o x y with
    | some r => .ok r s2
    | none => match view s2 x, view s2 y with
      | some u, some v => opt (binV o u v) s2
      | _, _ => .bad) := pe_imp (pe_op (opr_bin o) ha hb) fun σ H Q ⟨G, s, hR, q⟩ => by
  refine ⟨G, s, hR, at_bind q (.refl _ _ _ _) fun x s1 G1 H1 v1 st1 z1 R1 p1 q1 => ⟨G1, s1, R1, at_bind q1 z1 fun y s2 G2 H2 v2 st2 z2 R2 p2 q2 => ?_⟩⟩
  split at q2
  · rename_i r hr
    exact tupE_ok hr (RR.mono p1 st2) (p2.back z1) fun w rw => q2 _ _ _ z2 R2 rw
  split at q2
  · rename_i u v hu hv
    unfold opt at q2
    split at q2
    · rename_i r hr
      exact bin_ok hr (view_ok R2 (RR.mono p1 st2) hu) (view_ok R2 p2 hv) fun H' w n => let ⟨a, b, c⟩ := new_ok R2 n; q2 _ _ _ (z2.trans a) b (c.back z2)
    · exact q2.elim
  · exact q2.elim
theorem sE_cmp {a b : Expr} {ca cb : S → Oc R} {o : CmpOp} {p : Pos} (hu : X.A.units + 65 < cLine) (hm : behindInMarks o b = false) (ha : PE X a (tE T X.K B W ca)) (hb : PE X b (tE T X.K B W cb)) :
    PE X (.Compare a [o] [b] p) (tE T X.K B W fun s => (ca s).bind fun x s1 => (cb s1).bind fun y s2 => match view s2 x, view s2 y with
    | some u, some v => opt ((cmpS s2.st o u v).map fun t => .va (.bl t)) s2
    | _, _ => .bad) := pe_imp (pe_cmpR (opr_cmp hu o) ha hb hm) fun σ H Q ⟨G, s, hR, q⟩ => by
  refine ⟨G, s, hR, at_bind q (.refl _ _ _ _) fun x s1 G1 H1 v1 st1 z1 R1 p1 q1 => ⟨G1, s1, R1, at_bind q1 z1 fun y s2 G2 H2 v2 st2 z2 R2 p2 q2 => ?_⟩⟩
  split at q2
  · rename_i u v hu hv
    cases hr : cmpS s2.st o u v with
    | none => rw [hr] at q2; exact q2.elim
    | some t =>
      rw [hr] at q2
      exact cmpS_ok R2.c hr (view_ok R2 (RR.mono p1 st2) hu) (view_ok R2 p2 hv) (q2 G2 H2 _ z2 R2 (.va (.bl t)))
  · exact q2.elim
end
end BB

namespace BB
open PySem PySem.Spec PyProof.Rows L2
section
variable {T : Tab} {K : PySem.W.Frag} {B : Bs} {W : WX} {X : Cx} {G : Gh} {s : S} {σ : St} {H : Hp}
theorem setE_get {s : S} {i j : Nat} {x : Slot} : (setE s i x).env[j]? = if i = j then (if i < s.env.length then some x else none) else s.env[j]? := by
  show (s.env.set i x)[j]? = _
  rw [List.getElem?_set]
theorem OwnA.of_set {i : Nat} {x : Slot} (hx : isOwn x = false) {a : Addr} (h : OwnA (setE s i x) σ a) : OwnA s σ a := by
  obtain ⟨j, ⟨y, e, ho⟩, e2⟩ := h
  rw [setE_get] at e
  split at e
  · split at e
    · injection e with e; subst e; rw [hx] at ho; cases ho
    · cases e
  · exact ⟨j, ⟨y, e, ho⟩, e2⟩
theorem Own.of_set {i j : Nat} {x : Slot} (hx : isOwn x = false) {a : Addr} (h : Own (setE s i x) σ j a) : Own s σ j a ∧ i ≠ j := by
  obtain ⟨⟨y, e, ho⟩, e2⟩ := h
  rw [setE_get] at e
  split at e
  · split at e
    · injection e with e; subst e; rw [hx] at ho; cases ho
    · cases e
  · rename_i hij
    exact ⟨⟨⟨y, e, ho⟩, e2⟩, hij⟩
/-- a slot is known by another word -/
theorem Rel.setSlot {i : Nat} {x : Slot} (hR : Rel T K B G s σ H) (hx : isOwn x = false) (r : SlotR T K G H σ[i]? x) : Rel T K B G (setE s i x) σ H := by
  refine ⟨by show (s.env.set i x).length = _; rw [List.length_set]; exact hR.len, fun j y e => ?_, fun a h => hR.own1 a (h.of_set hx), fun j l a h1 h2 => hR.own2 j l a (h1.of_set hx).1 (h2.of_set hx).1, hR.c, hR.b⟩
  rw [setE_get] at e
  split at e
  · rename_i hij
    split at e
    · injection e with e; subst e; subst hij; exact r
    · cases e
  · exact hR.sl j y e
theorem Stp.setSlot {i : Nat} {x : Slot} (hx : isOwn x = false) : Stp σ G s H G (setE s i x) H :=
  ⟨.refl _ _, fun _ _ h _ _ => h, fun _ h => h, fun _ h n => absurd h n, fun _ h n => absurd h n, fun _ h => h.of_set hx⟩
theorem own_at {i : Nat} {x : Slot} (hR : Rel T K B G s σ H) (e : s.env[i]? = some x) (ho : isOwn x = true) : ∃ a, σ[i]? = some (some (.ref a)) ∧ Own s σ i a := by
  obtain ⟨a, u, e1, e2⟩ := (hR.sl i x e).there ho
  exact ⟨a, e1, ⟨x, e, ho⟩, e1⟩
theorem fresh_mv {i : Nat} {a : Addr} (hR : Rel T K B G s σ H) (h : Own s σ i a) : Fresh B s H G (setE s i .no) σ H a := by
  have h1 := hR.own1 a ⟨i, h⟩
  refine ⟨h1.1, h1.2.1, fun z => ?_, h1.2.2, .inr ⟨i, h⟩⟩
  obtain ⟨j, z⟩ := z
  obtain ⟨z1, z2⟩ := z.of_set rfl
  exact z2 (hR.own2 i j a h z1)
theorem sE_mv {i : Nat} {x : Str} {p : Pos} (h : PE X (.Name x p) (tVar i)) : PE X (.Name x p) (tE T K B W fun s => match s.env[i]? with
    | some (.va d) => .ok (.va d) s
    | some (.ol l) => .ok (.fl l) (setE s i .no)
    | some (.od t l) => .ok (.fd t l) (setE s i .no)
    | _ => .bad) := pe_imp h fun σ H Q ⟨G, s, hR, q⟩ => by
  revert q
  dsimp only
  split
  · rename_i d e
    intro q
    have z := hR.sl _ _ e
    cases z' : σ[i]? with
    | none => rw [z'] at z; cases z
    | some o => rw [z'] at z; cases z with
      | va r => exact ⟨_, z', q G H _ (.refl _ _ _ _) hR (.va r)⟩
  · rename_i d e
    intro q
    have z := hR.sl _ _ e
    obtain ⟨a, e1, ow⟩ := own_at hR e rfl
    rw [e1] at z
    cases z with
    | ol r t => exact ⟨_, e1, q G H _ (.setSlot rfl) (hR.setSlot rfl (.no _)) (.fl r t (fresh_mv hR ow))⟩
  · rename_i d e
    intro q
    have z := hR.sl _ _ e
    obtain ⟨a, e1, ow⟩ := own_at hR e rfl
    rw [e1] at z
    cases z with
    | odK r t => exact ⟨_, e1, q G H _ (.setSlot rfl) (hR.setSlot rfl (.no _)) (.fdK r t (fresh_mv hR ow))⟩
    | odT r t => exact ⟨_, e1, q G H _ (.setSlot rfl) (hR.setSlot rfl (.no _)) (.fdT r t (fresh_mv hR ow))⟩
  · exact fun q => q.elim
theorem setE_setE {i : Nat} {x y : Slot} : setE (setE s i x) i y = setE s i y := by
  show S.mk _ _ = S.mk _ _
  congr 1
  exact List.set_set ..
theorem sE_fz {i : Nat} {x : Str} {p : Pos} (h : PE X (.Name x p) (tVar i)) : PE X (.Name x p) (tE T K B W fun s => match s.env[i]? with
    | some (.va d) => .ok (.va d) s
    | some (.ol l) => .ok (.va (.lst l)) (setE s i (.va (.lst l)))
    | some (.od t l) => .ok (.va (.dct t l)) (setE s i (.va (.dct t l)))
    | _ => .bad) := pe_imp h fun σ H Q ⟨G, s, hR, q⟩ => by
  revert q
  dsimp only
  have fin : ∀ (a : Addr) (r : R) (d : D), σ[i]? = some (some (.ref a)) → keepR r = some d → RR T K B s H G (setE s i .no) σ H (.ref a) r → (∀ G' H' b, Stp σ G s H G' (setE s i (.va d)) H' → Rel T K B G' (setE s i (.va d)) σ H' → PR T K B s H G' (setE s i (.va d)) σ H' b (.va d) → Q b H') → Q (.ref a) H := by
    intro a r d e1 hk hr q
    obtain ⟨G', st, R', rv⟩ := keep1 (hR.setSlot rfl (.no _)) (.setSlot rfl) hr hk
    refine q G' H _ ?_ ?_ (.va rv)
    · have := st.trans (Stp.setSlot (i := i) (x := .va d) rfl)
      rw [setE_setE] at this
      exact this
    · have := R'.setSlot (i := i) (x := .va d) rfl (by rw [e1]; exact .va rv)
      rw [setE_setE] at this
      exact this
  split
  · rename_i d e
    intro q
    have z := hR.sl _ _ e
    cases z' : σ[i]? with
    | none => rw [z'] at z; cases z
    | some o => rw [z'] at z; cases z with
      | va r => exact ⟨_, z', q G H _ (.refl _ _ _ _) hR (.va r)⟩
  · rename_i d e
    intro q
    have z := hR.sl _ _ e
    obtain ⟨a, e1, ow⟩ := own_at hR e rfl
    rw [e1] at z
    cases z with
    | ol r t => exact ⟨_, e1, fin a (.fl d) _ e1 rfl (.fl r t (fresh_mv hR ow)) q⟩
  · rename_i d e
    intro q
    have z := hR.sl _ _ e
    obtain ⟨a, e1, ow⟩ := own_at hR e rfl
    rw [e1] at z
    cases z with
    | odK r t => exact ⟨_, e1, fin a (.fd _ _) _ e1 rfl (.fdK r t (fresh_mv hR ow)) q⟩
    | odT r t => exact ⟨_, e1, fin a (.fd _ _) _ e1 rfl (.fdT r t (fresh_mv hR ow)) q⟩
  · exact fun q => q.elim

/-! lists of expressions -/
theorem sL_nil : PA X [] (tL T K B W fun s => .ok [] s) := pa_imp pa_nil fun σ H Q ⟨G, s, hR, q⟩ => q G H [] (.refl _ _ _ _) hR .nil
theorem sL_cons {e : Expr} {es : List Expr} {c : S → Oc R} {cs : S → Oc (List R)} (he : PE X e (tE T K B W c)) (hes : PA X es (tL T K B W cs)) (hs : starEach (e :: es) X.env = (false, eval e X.env) :: starEach es X.env) :
    PA X (e :: es) (tL T K B W fun s => (c s).bind fun r s1 => (cs s1).bind fun rs s2 => .ok (r :: rs) s2) := pa_imp (pa_cons he hes hs) fun σ H Q ⟨G, s, hR, q⟩ => by
  refine ⟨G, s, hR, at_bind q (.refl _ _ _ _) fun x s1 G1 H1 v1 st1 z1 R1 p1 q1 => ⟨G1, s1, R1, at_bind q1 z1 fun y s2 G2 H2 v2 st2 z2 R2 p2 q2 => ?_⟩⟩
  exact q2 G2 H2 _ z2 R2 (.cons (p1.mono st2) (RRs.back z1 p2))
end
end BB

namespace BB
open PySem PySem.Spec PyProof.Rows L2
/-! built-in functions by values -/
def Bi.val : Bi → Value
  | .len => .builtin "len" | .int => .type "int" | .str => .type "str" | .abs => .builtin "abs" | .max => .builtin "max" | .min => .builtin "min" | .sum => .builtin "sum"
  | .all => .builtin "all" | .any => .builtin "any" | .list => .type "list" | .tuple => .type "tuple" | .isi => .builtin "isinstance" | .ord => .builtin "ord" | .sorted => .builtin "sorted" | .set => .type "set"
theorem Bi.boot (b : Bi) : bootBuiltins b.name = some b.val := by cases b <;> decide +kernel
theorem Bi.ne (b : Bi) : b.name ≠ "__name__" := by cases b <;> decide
theorem Bi.nd (b : Bi) : (b.name == ("__debug__" : Str)) = false := by cases b <;> decide
abbrev RB := List V → Hp → VK → Prop
def rNoB : RB := fun _ _ _ => False
def rLen (K : PySem.W.Frag) : RB := fun xs H Q => (∃ x n, xs = [x] ∧ LenV K x H n ∧ Q (.int n) H) ∨ ((∃ a kvs, xs = [V.ref a] ∧ H a = some (.dK kvs) ∧ Q (.int kvs.length) H) ∨ rLenT xs H Q)
def rInt : RB := fun xs H Q => ((∃ i, xs = [.int i] ∧ Q (.int i) H) ∨ ∃ k, xs = [.bl k] ∧ Q (.int (if k then 1 else 0)) H) ∨ ∃ a n, xs = [.str a] ∧ PySem.intText? a = some n ∧ a.length ≤ 640 ∧ Q (.int n) H
def rStr : RB := fun xs H Q => (∃ i, xs = [.int i] ∧ i.natAbs.log2 < 1920 ∧ Q (.str (toString i)) H) ∨ ((∃ a, xs = [.str a] ∧ Q (.str a) H) ∨ ((xs = [.non] ∧ Q (.str "None") H) ∨ ∃ b, xs = [.bl b] ∧ Q (.str (if b then "True" else "False")) H))
def rAbs : RB := fun xs H Q => ∃ i, xs = [.int i] ∧ Q (.int (if i < 0 then -i else i)) H
def rMax2 : RB := fun xs H Q => ∃ i j, xs = [.int i, .int j] ∧ Q (.int (if j > i then j else i)) H
def rMin2 : RB := fun xs H Q => ∃ i j, xs = [.int i, .int j] ∧ Q (.int (if j < i then j else i)) H
def rLst (K : PySem.W.Frag) : RB := fun xs H Q => ∃ p ys, xs = [.ref p] ∧ (SqL K H p ys ∨ SqT K H p ys) ∧ ∀ l, H l = none → Q (.ref l) (upd H l (.lst ys))
def rTpl (K : PySem.W.Frag) : RB := fun xs H Q => ∃ p ys, xs = [.ref p] ∧ ((SqL K H p ys ∧ ∀ l, H l = none → Q (.ref l) (upd H l (.tup ys))) ∨ (SqT K H p ys ∧ Q (.ref p) H))
def rOrd : RB := fun xs H Q => ∃ x, xs = [.str x] ∧ x.length = 1 ∧ Q (.int (x.cps.getD 0 0 : Nat)) H
def rBi (K : PySem.W.Frag) : Bi → RB
  | .len => rLen K | .int => rInt | .str => rStr | .abs => rAbs | .max => rMax2 | .min => rMin2 | .sum => rSum K | .all => rAll K | .any => rAny K
  | .list => rLst K | .tuple => rTpl K | .isi => rIsi K | .ord => rOrd | .sorted => rNoB | .set => rNoB
section
variable {X : Cx}
theorem call_no {f : Value} : CallR X f rNoB := fun _ _ _ _ _ _ _ _ _ h => h.elim
theorem call_str_non : CallR X (.type "str") (fun xs H Q => xs = [.non] ∧ Q (.str "None") H) := by
  intro pins s σ H xs us Q I r h
  obtain ⟨rfl, q⟩ := h
  obtain ⟨u, rfl, r1⟩ := vals1 r
  cases r1
  exact PySem.P.str_of_none ⟨.str _, H, I.tok _, ⟨_, rfl⟩, q⟩
theorem call_str_bl : CallR X (.type "str") (fun xs H Q => ∃ b, xs = [.bl b] ∧ Q (.str (if b then "True" else "False")) H) := by
  intro pins s σ H xs us Q I r h
  obtain ⟨b, rfl, q⟩ := h
  obtain ⟨u, rfl, r1⟩ := vals1 r
  cases r1
  exact PySem.P.str_of_bool ⟨.str _, H, I.tok _, ⟨_, rfl⟩, q⟩
theorem callR_bi (hc : X.calm = true) (b : Bi) : CallR X b.val (rBi X.K b) := by
  cases b with
  | len => exact call_len.or (call_lenD.or call_len_dT)
  | int => exact call_int1.or call_int_str
  | str => exact call_str_int.or (SkE.call_str_str.or (call_str_non.or call_str_bl))
  | abs => exact call_abs
  | max => exact call_max2 hc
  | min => exact call_min2 hc
  | sum => exact cr_sum hc
  | all => exact cr_all hc
  | any => exact cr_any hc
  | list => exact call_list_of
  | tuple => exact call_tuple_of
  | isi => exact call_isi
  | ord => exact call_ord
  | sorted => exact call_no
  | set => exact call_no
end
section
variable {T : Tab} {K : PySem.W.Frag} {G : Gh} {H : Hp} {Q : VK}
theorem kit_of {t u : String} (hu : u ∈ ["str", "int", "bool", "tuple", "list", "dict"]) (ht : t ∈ ["NoneType", "bool", "int", "str", "tuple", "list", "dict"]) : PySem.W.kitOne K (.type t) (.type u) = some (isiW t u) := by
  simp only [List.mem_cons, List.not_mem_nil, or_false] at hu ht
  rcases hu with rfl | rfl | rfl | rfl | rfl | rfl <;> rcases ht with rfl | rfl | rfl | rfl | rfl | rfl | rfl <;> with_unfolding_all rfl
theorem VW.ty {v : V} {w : Vw} {t : String} (h : VW T K G H v w) (e : tyW w = some t) : TyX K H v (.type t) ∧ t ∈ ["NoneType", "bool", "int", "str", "tuple", "list", "dict"] := by
  cases h with
  | «at» q =>
    cases q <;> first
      | (cases e; done)
      | (injection e with e; subst e; exact ⟨.base .non, by decide⟩)
      | (injection e with e; subst e; exact ⟨.base (.bl _), by decide⟩)
      | (injection e with e; subst e; exact ⟨.base (.int _), by decide⟩)
      | (injection e with e; subst e; exact ⟨.base (.str _), by decide⟩)
      | skip
    case tup a b c =>
      injection e with e; subst e
      refine ⟨?_, by decide⟩
      rcases b with (b | ⟨o, b⟩) | ⟨o, its, n, b, d, _⟩
      · exact .base (.tup b)
      · exact .fTuple b
      · exact .kTuple b d
  | sc a b => cases e
  | ls a b =>
    injection e with e; subst e
    refine ⟨?_, by decide⟩
    rcases a with a | ⟨o, a⟩
    · exact .base (.lst a)
    · exact .base (.frz a)
  | dcK a b => injection e with e; subst e; exact ⟨.base (.dK a), by decide⟩
  | dcT a b => injection e with e; subst e; exact ⟨.base (.dT a), by decide⟩
  | dlK a b => cases e
  | dlT a b => cases e
theorem rks_len : ∀ {kvs : List (Key × V)} {l : List (D × D)}, RKs T K G H kvs l → kvs.length = l.length
  | _, _, .nil => rfl
  | _, _, .cons _ _ t => by rw [List.length_cons, List.length_cons, rks_len t]
theorem rts_len : ∀ {kvs : List (List Key × V)} {l : List (D × D)}, RTs T K G H kvs l → kvs.length = l.length
  | _, _, .nil => rfl
  | _, _, .cons _ _ t => by rw [List.length_cons, List.length_cons, rts_len t]
theorem bi_ok {b : Bi} {vs : List V} {ws : List Vw} {r : R} (e : biV b ws = some r) (h : Paired (VW T K G H) vs ws) (hT : b.notT = false → ∀ a l, vs = [.ref a] → ws = [.at (.tup l)] → ∃ us, H a = some (.tup us) ∧ RVs T K G H us l) (q : ∀ H' w, NewR T K G H H' w r → Q w H') : rBi K b vs H Q := by
  unfold biV at e
  split at e
  -- len
  · injection e with e; subst e
    cases h with | cons a b => cases b; cases a with | ls a b => exact .inl ⟨_, _, rfl, .inl ⟨_, .inl a, rfl⟩, by rw [b.length]; exact q _ _ (.same (.int _))⟩
  · injection e with e; subst e
    cases h with | cons a b => cases b; cases a with | sc a b => exact .inl ⟨_, _, rfl, .inl ⟨_, a, rfl⟩, by rw [b.length]; exact q _ _ (.same (.int _))⟩
  · injection e with e; subst e
    cases h with | cons a b => cases b; cases a with | «at» a => cases a with | tup a b => exact .inl ⟨_, _, rfl, .inr ⟨_, a, rfl⟩, by rw [b.length]; exact q _ _ (.same (.int _))⟩
  · split at e
    · rename_i hz
      injection e with e; subst e
      cases h with | cons a b => cases b; cases a with | «at» a => cases a with | str => exact .inl ⟨_, _, rfl, ⟨hz, rfl⟩, q _ _ (.same (.int _))⟩
    · cases e
  · injection e with e; subst e
    cases h with | cons a b => cases b; cases a with
      | dcK a b => exact .inr (.inl ⟨_, _, rfl, a, by rw [rks_len b]; exact q _ _ (.same (.int _))⟩)
      | dcT a b => exact .inr (.inr ⟨_, _, rfl, a, by rw [rts_len b]; exact q _ _ (.same (.int _))⟩)
  -- int
  · injection e with e; subst e
    cases h with | cons a b => cases b; cases a with | «at» a => cases a with | int => exact .inl (.inl ⟨_, rfl, q _ _ (.same (.int _))⟩)
  · injection e with e; subst e
    cases h with | cons a b => cases b; cases a with | «at» a => cases a with | bl => exact .inl (.inr ⟨_, rfl, q _ _ (.same (.int _))⟩)
  · split at e
    · rename_i n hn
      split at e
      · rename_i hz
        injection e with e; subst e
        cases h with | cons a b => cases b; cases a with | «at» a => cases a with | str => exact .inr ⟨_, _, rfl, hn, hz, q _ _ (.same (.int _))⟩
      · cases e
    · cases e
  -- str
  · injection e with e; subst e
    cases h with | cons a b => cases b; cases a with | «at» a => cases a with | non => exact .inr (.inr (.inl ⟨rfl, q _ _ (.same (.str _))⟩))
  · injection e with e; subst e
    cases h with | cons a b => cases b; cases a with | «at» a => cases a with | bl => exact .inr (.inr (.inr ⟨_, rfl, q _ _ (.same (.str _))⟩))
  · split at e
    · rename_i hz
      injection e with e; subst e
      cases h with | cons a b => cases b; cases a with | «at» a => cases a with | int => exact .inl ⟨_, rfl, hz, q _ _ (.same (.str _))⟩
    · cases e
  · injection e with e; subst e
    cases h with | cons a b => cases b; cases a with | «at» a => cases a with | str => exact .inr (.inl ⟨_, rfl, q _ _ (.same (.str _))⟩)
  -- abs
  · injection e with e; subst e
    cases h with | cons a b => cases b; cases a with | «at» a => cases a with | int => exact ⟨_, rfl, q _ _ (.same (.int _))⟩
  · injection e with e; subst e
    cases h with | cons a b => cases b with | cons b c => cases c; cases a with | «at» a => cases a with | int => cases b with | «at» b => cases b with | int => exact ⟨_, _, rfl, q _ _ (.same (.int _))⟩
  · injection e with e; subst e
    cases h with | cons a b => cases b with | cons b c => cases c; cases a with | «at» a => cases a with | int => cases b with | «at» b => cases b with | int => exact ⟨_, _, rfl, q _ _ (.same (.int _))⟩
  -- sum, all, any
  · rename_i l
    cases h1 : intsD l with
    | none => rw [h1] at e; cases e
    | some is =>
      rw [h1] at e; injection e with e; subst e
      cases h with | cons a b => cases b; cases a with | ls a b => rw [b.ints h1] at a; exact ⟨_, is, rfl, .inl a, q _ _ (.same (.int _))⟩
  · rename_i l
    cases h1 : blsD l with
    | none => rw [h1] at e; cases e
    | some is =>
      rw [h1] at e; injection e with e; subst e
      cases h with | cons a b => cases b; cases a with | ls a b => rw [b.bools h1] at a; exact ⟨_, is, rfl, .inl a, q _ _ (.same (.bl _))⟩
  · rename_i l
    cases h1 : blsD l with
    | none => rw [h1] at e; cases e
    | some is =>
      rw [h1] at e; injection e with e; subst e
      cases h with | cons a b => cases b; cases a with | ls a b => rw [b.bools h1] at a; exact ⟨_, is, rfl, .inl a, q _ _ (.same (.bl _))⟩
  -- list, tuple
  · injection e with e; subst e
    cases h with | cons a b => cases b; cases a with | ls a b => exact ⟨_, _, rfl, .inl (.inl a), fun l hl => q _ _ (.lst hl b)⟩
  · injection e with e; subst e
    cases h with | cons a b => cases b; cases a with | «at» a => cases a with | tup a b => exact ⟨_, _, rfl, .inr a, fun l hl => q _ _ (.lst hl b)⟩
  · injection e with e; subst e
    cases h with | cons a b => cases b; cases a with | ls a b => exact ⟨_, _, rfl, .inl ⟨.inl a, fun l hl => q _ _ (.tup hl b)⟩⟩
  · injection e with e; subst e
    cases h with | cons a b => cases b; cases a with | «at» a => cases a with | tup a b =>
      obtain ⟨us, e1, e2⟩ := hT rfl _ _ rfl rfl
      exact ⟨_, _, rfl, .inr ⟨.inl (.inl e1), q _ _ (.same (.tup e1 e2))⟩⟩
  -- isinstance
  · split at e
    · rename_i a u hu
      cases h1 : tyW a with
      | none => rw [h1] at e; cases e
      | some t =>
        rw [h1] at e; injection e with e; subst e
        cases h with | cons a b => cases b with | cons b c => cases c; cases b with | «at» b => cases b with | ty =>
          obtain ⟨ty, ht⟩ := a.ty h1
          exact ⟨_, _, _, _, _, rfl, .ty _, ty, kit_of hu ht, q _ _ (.same (.bl _))⟩
    · cases e
  -- ord
  · split at e
    · rename_i hz
      injection e with e; subst e
      cases h with | cons a b => cases b; cases a with | «at» a => cases a with | str => exact ⟨_, rfl, hz, q _ _ (.same (.int _))⟩
    · cases e
  · cases e
end
end BB

namespace BB
open PySem PySem.Spec PyProof.Rows L2
/-! methods -/
def Mt.id : Mt → String
  | .count => "str.count" | .split => "str.split" | .join => "str.join" | .index => "str.index" | .replace => "str.replace" | .upper => "str.upper"
  | .startswith => "str.startswith" | .endswith => "str.endswith" | .lcount => "list.count"
abbrev RM := V → List V → Hp → VK → Prop
def rM1 (g : Str → Str → V) : RM := fun x xs H Q => ∃ a b, x = .str a ∧ xs = [.str b] ∧ Q (g a b) H
def rSplit : RM := fun x xs H Q => ∃ a b, x = .str a ∧ xs = [.str b] ∧ (b.length == 0) = false ∧ a.length + 2 ≤ sizeLine ∧ rNewStrs (Txt.split a b) H Q
def rJoin (K : PySem.W.Frag) : RM := fun x xs H Q => ∃ a p, ∃ ys : List Str, x = .str a ∧ xs = [.ref p] ∧ (SqL K H p (ys.map V.str) ∨ SqT K H p (ys.map V.str)) ∧ (ys.map (·.length)).sum + ys.length * a.length ≤ 16777216 ∧ Q (.str (Txt.join a ys)) H
def rUpper : RM := fun x xs H Q => ∃ a, x = .str a ∧ xs = [] ∧ a.length ≤ 5592405 ∧ Q (.str (Txt.upper a)) H
def rNoM : RM := fun _ _ _ _ => False
def rMt (K : PySem.W.Frag) : Mt → RM
  | .count => rM1 fun a b => .int (Txt.count a b)
  | .split => rSplit | .join => rJoin K | .upper => rUpper
  | .startswith => rM1 fun a b => .bl (Txt.startswith a b)
  | .endswith => rM1 fun a b => .bl (Txt.endswith a b)
  | .index => fun x xs H Q => ∃ a b i rest, x = .str a ∧ xs = [.str b] ∧ Builtin.Str.occurrences a b 0 a.length 1 = i :: rest ∧ Q (.int (i : Nat)) H
  | _ => rNoM
section
variable {X : Cx}
theorem mtR (m : Mt) : MtR X m.id (rMt X.K m) := by
  cases m with
  | count => exact mt_count
  | split => exact mt_split
  | join => exact mt_join
  | upper => exact mt_upper
  | startswith => exact mt_startswith
  | endswith => exact mt_endswith
  | index => exact mt_sindex
  | _ => exact fun _ _ _ _ _ _ _ _ _ _ _ _ h => h.elim
end
section
variable {T : Tab} {K : PySem.W.Frag} {G : Gh} {H : Hp} {Q : VK}
theorem mt_ok {m : Mt} {v : V} {w : Vw} {vs : List V} {ws : List Vw} {r : R} (e : mtV m w ws = some r) (h0 : VW T K G H v w) (h : Paired (VW T K G H) vs ws) (q : ∀ H' w, NewR T K G H H' w r → Q w H') : tyV K "str" v H ∧ rMt K m v vs H Q := by
  unfold mtV at e
  split at e
  · injection e with e; subst e
    cases h with | cons a b => cases b; cases h0 with | «at» c => cases c with | str => cases a with | «at» a => cases a with | str => exact ⟨rfl, _, _, rfl, rfl, q _ _ (.same (.int _))⟩
  · split at e
    · rename_i hz
      injection e with e; subst e
      cases h with | cons a b => cases b; cases h0 with | «at» c => cases c with | str => cases a with | «at» a => cases a with | str => exact ⟨rfl, _, _, rfl, rfl, hz.1, hz.2, fun p hp => q _ _ (.lst hp (.ofTexts _))⟩
    · cases e
  · split at e
    · rename_i ys hy
      split at e
      · rename_i hz
        injection e with e; subst e
        cases h with | cons a b => cases b; cases h0 with | «at» c => cases c with | str => cases a with | ls a b => rw [b.texts hy] at a; exact ⟨rfl, _, _, ys, rfl, rfl, .inl (.inl a), hz, q _ _ (.same (.str _))⟩
      · cases e
    · cases e
  · split at e
    · rename_i hz
      injection e with e; subst e
      cases h; cases h0 with | «at» c => cases c with | str => exact ⟨rfl, _, rfl, rfl, hz, q _ _ (.same (.str _))⟩
    · cases e
  · injection e with e; subst e
    cases h with | cons a b => cases b; cases h0 with | «at» c => cases c with | str => cases a with | «at» a => cases a with | str => exact ⟨rfl, _, _, rfl, rfl, q _ _ (.same (.bl _))⟩
  · injection e with e; subst e
    cases h with | cons a b => cases b; cases h0 with | «at» c => cases c with | str => cases a with | «at» a => cases a with | str => exact ⟨rfl, _, _, rfl, rfl, q _ _ (.same (.bl _))⟩
  · split at e
    · rename_i i rest ho
      injection e with e; subst e
      cases h with | cons a b => cases b; cases h0 with | «at» c => cases c with | str => cases a with | «at» a => cases a with | str => exact ⟨rfl, _, _, _, _, rfl, rfl, ho, q _ _ (.same (.int _))⟩
    · cases e
  · cases e
theorem ix_ok {v w : V} {a b : Vw} {d : D} (e : ixV a b = some d) (h0 : VW T K G H v a) (h1 : VW T K G H w b) (q : ∀ x, RV T K G H x d → Q x H) : rIxL K v w H Q ∨ (rIxT K v w H Q ∨ rIxS v w H Q) := by
  unfold ixV at e
  split at e
  · rename_i i
    cases h1 with | «at» c => cases c with | int =>
    split at e
    · cases h0 with | ls x y =>
        obtain ⟨z, e1, r⟩ := y.ix e
        exact .inl ⟨_, _, _, z, rfl, rfl, .inl x, e1, q _ r⟩
    · cases h0 with | sc x y =>
        obtain ⟨z, e1, r⟩ := y.ix e
        exact .inl ⟨_, _, _, z, rfl, rfl, x, e1, q _ r⟩
    · cases h0 with | «at» x => cases x with | tup x y =>
        obtain ⟨z, e1, r⟩ := y.ix e
        exact .inr (.inl ⟨_, _, _, z, rfl, rfl, x, e1, q _ r⟩)
    · split at e
      · rename_i z hz
        cases h0 with | «at» x => cases x with | str =>
          cases h : atI z.cps.toList i with
          | none => rw [h] at e; cases e
          | some c =>
            rw [h] at e; injection e with e; subst e
            exact .inr (.inr ⟨_, _, c, rfl, rfl, hz, h, q _ (.str _)⟩)
      · cases e
    · cases e
  · cases e
theorem cutD_full {α : Type} {xs : List α} {lo hi : Option Int} (h : HT.sIx xs.length 0 lo = 0 ∧ HT.sIx xs.length xs.length hi = xs.length) : (xs.drop (HT.sIx xs.length 0 lo)).take (HT.sIx xs.length xs.length hi - HT.sIx xs.length 0 lo) = xs := by
  rw [h.1, h.2]; simp
theorem sl_ok {v : V} {a : Vw} {lo hi : Option Int} {r : R} (e : slV a lo hi = some r) (h0 : VW T K G H v a) (hT : ∀ b l, v = .ref b → a = .at (.tup l) → (cutD l lo hi).length = l.length → ∃ us, H b = some (.tup us) ∧ RVs T K G H us l) (q : ∀ H' w, NewR T K G H H' w r → Q w H') : rSlL K v lo hi H Q ∨ (rSlA K v lo hi H Q ∨ rSlS v lo hi H Q) := by
  unfold slV at e
  split at e
  · injection e with e; subst e
    cases h0 with | ls x y => exact .inl ⟨_, _, rfl, .inl x, fun p hp => q _ _ (.lst hp (y.cut lo hi))⟩
  · injection e with e; subst e
    cases h0 with | sc x y => exact .inl ⟨_, _, rfl, x, fun p hp => q _ _ (.lst hp (y.cut lo hi))⟩
  · injection e with e; subst e
    cases h0 with | «at» x => cases x with | tup x y =>
      refine .inr (.inl ⟨_, _, rfl, x, fun hf => ?_, fun _ p hp => q _ _ (.tup hp (y.cut lo hi))⟩)
      rw [y.length] at hf
      have q2 := q _ _ (.same (K := K) (T := T) (by
        have z := hT _ _ rfl rfl (by unfold cutD; rw [cutD_full hf])
        obtain ⟨us, e1, e2⟩ := z
        unfold cutD
        rw [cutD_full hf]
        exact .tup e1 e2))
      exact q2
  · split at e
    · rename_i hz
      injection e with e; subst e
      cases h0 with | «at» x => cases x with | str => exact .inr (.inr ⟨_, rfl, hz, q _ _ (.same (.str _))⟩)
    · cases e
  · cases e
/-! dicts -/
theorem RKs.get {kvs : List (Key × V)} {l : List (D × D)} (h : RKs T K G H kvs l) (k : Key) : (valV kvs k = none ∧ dget (.inl k) l = none) ∨ ∃ v d, valV kvs k = some v ∧ dget (.inl k) l = some d ∧ RV T K G H v d := by
  induction kvs generalizing l with
  | nil => cases h; exact .inl ⟨rfl, rfl⟩
  | cons p r ih =>
    cases h with
    | @cons k' v kd d _ ds e rv t =>
      by_cases hk : k' = k
      · subst hk
        exact .inr ⟨v, d, valV_pos rfl, by unfold dget; rw [List.find?_cons, e]; simp, rv⟩
      · have e1 : dget (.inl k) ((kd, d) :: ds) = dget (.inl k) ds := by
          unfold dget
          rw [List.find?_cons]
          have : decide (dkey kd = some (Sum.inl k)) = false := decide_eq_false (by rw [e]; intro z; injection z with z; injection z with z; exact hk z)
          rw [this]
        rw [valV_neg hk, e1]
        exact ih t
theorem RTs.get {kvs : List (List Key × V)} {l : List (D × D)} (h : RTs T K G H kvs l) (k : List Key) : (valV kvs k = none ∧ dget (.inr k) l = none) ∨ ∃ v d, valV kvs k = some v ∧ dget (.inr k) l = some d ∧ RV T K G H v d := by
  induction kvs generalizing l with
  | nil => cases h; exact .inl ⟨rfl, rfl⟩
  | cons p r ih =>
    cases h with
    | @cons k' v kd d _ ds e rv t =>
      by_cases hk : k' = k
      · subst hk
        exact .inr ⟨v, d, valV_pos rfl, by unfold dget; rw [List.find?_cons, e]; simp, rv⟩
      · have e1 : dget (.inr k) ((kd, d) :: ds) = dget (.inr k) ds := by
          unfold dget
          rw [List.find?_cons]
          have : decide (dkey kd = some (Sum.inr k)) = false := decide_eq_false (by rw [e]; intro z; injection z with z; injection z with z; exact hk z)
          rw [this]
        rw [valV_neg hk, e1]
        exact ih t
theorem RKs.keys_ne {kvs : List (Key × V)} {l : List (D × D)} (h : RKs T K G H kvs l) (k : List Key) : dget (.inr k) l = none := by
  induction kvs generalizing l with
  | nil => cases h; rfl
  | cons p r ih =>
    cases h with
    | @cons k' v kd d _ ds e rv t =>
      unfold dget
      rw [List.find?_cons]
      have : decide (dkey kd = some (Sum.inr k)) = false := decide_eq_false (by rw [e]; intro z; injection z with z; cases z)
      rw [this]
      exact ih t
theorem keysD_of : ∀ {ds : List D} {ks : List Key} {vs : List V}, keysD ds = some ks → RVs T K G H vs ds → vs = ks.map kV
  | [], _, _, e, .nil => by injection e with e; subst e; rfl
  | d :: ds, _, _, e, .cons r t => by
    unfold keysD at e
    split at e
    · rename_i k ks h1 h2
      injection e with e; subst e
      rw [keysD_of h2 t, List.map_cons]
      congr 1
      cases d <;> first | (cases h1; done) | (injection h1 with h1; subst h1; cases r; rfl)
    · cases e
theorem key_of {d : D} {k : Key} {v : V} (e : dkey d = some (.inl k)) (r : RV T K G H v d) : v = kV k := by
  cases d <;> first | (cases e; done) | skip
  case int => cases r; injection e with e; injection e with e; subst e; rfl
  case str => cases r; injection e with e; injection e with e; subst e; rfl
  case tup l =>
    have e : (keysD l).map Sum.inr = some (Sum.inl k) := e
    cases h : keysD l with
    | none => rw [h] at e; cases e
    | some ks => rw [h] at e; injection e with e; cases e
theorem tkey_of {d : D} {k : List Key} {v : V} (e : dkey d = some (.inr k)) (r : RV T K G H v d) : ∃ a, v = .ref a ∧ H a = some (.tup (k.map kV)) := by
  cases d <;> first | (cases e; done) | skip
  case tup l =>
    have e : (keysD l).map Sum.inr = some (Sum.inr k) := e
    cases h : keysD l with
    | none => rw [h] at e; cases e
    | some ks =>
      rw [h] at e; injection e with e; injection e with e; subst e
      cases r with
      | tup x y =>
        rw [keysD_of h y] at x
        exact ⟨_, rfl, x⟩
theorem RKs.put {kvs : List (Key × V)} {l : List (D × D)} {k : Key} {kd d : D} {v : V} (h : RKs T K G H kvs l) (e : dkey kd = some (.inl k)) (r : RV T K G H v d) : RKs T K G H (putK kvs k v) (dput kd (.inl k) d l) := by
  have ha : (kvs.any fun kv => decide (kv.1 = k)) = (l.any fun p => decide (dkey p.1 = some (.inl k))) := by
    induction kvs generalizing l with
    | nil => cases h; rfl
    | cons p q ih =>
      cases h with
      | @cons k' v' kd' d' _ ds e' rv t =>
        rw [List.any_cons, List.any_cons, ih t]
        congr 1
        show decide (k' = k) = decide (dkey kd' = some (Sum.inl k))
        rw [e']
        by_cases hk : k' = k
        · subst hk; simp
        · rw [decide_eq_false hk, decide_eq_false]; intro z; injection z with z; injection z with z; exact hk z
  have hm : RKs T K G H (kvs.map fun kv => if kv.1 = k then (kv.1, v) else kv) (l.map fun p => if dkey p.1 = some (.inl k) then (p.1, d) else p) := by
    clear ha
    induction kvs generalizing l with
    | nil => cases h; exact .nil
    | cons p q ih =>
      cases h with
      | @cons k' v' kd' d' _ ds e' rv t =>
        rw [List.map_cons, List.map_cons]
        by_cases hk : k' = k
        · subst hk
          rw [if_pos rfl, if_pos e']
          exact .cons e' r (ih t)
        · rw [if_neg hk, if_neg (by show ¬ dkey kd' = _; rw [e']; intro z; injection z with z; injection z with z; exact hk z)]
          exact .cons e' rv (ih t)
  have hp : RKs T K G H (kvs ++ [(k, v)]) (l ++ [(kd, d)]) := by
    clear ha hm
    induction kvs generalizing l with
    | nil => cases h; exact .cons e r .nil
    | cons p q ih =>
      cases h with
      | cons e' rv t => exact .cons e' rv (ih t)
  unfold putK dput
  rw [ha]
  split
  · exact hm
  · exact hp
end
end BB

namespace BB
open PySem PySem.Spec PyProof.Rows L2 HT
section
variable {prog : Program} {w : World} {A : Around} {E : Value → Shared → Prop} {s : Shared}
theorem adj_rev (n : Nat) : Builtin.Slice.sliceAdjust none none (-1) (n : Int) = ((n : Int) - 1, -1) := by
  unfold Builtin.Slice.sliceAdjust
  simp
theorem plc_rev (n : Nat) : Builtin.Slice.slicePlaces ((n : Int) - 1) (-1) (-1) = n := by
  unfold Builtin.Slice.slicePlaces
  simp
  omega
theorem applied_rev {sl : Addr} {u : Tok} {n : Nat} {Q : Int × Int × Nat → Shared → Prop} (hs : s.heap.IsSliceOf sl .none .none (.int (-1) u)) (h : Q ((n : Int) - 1, -1, n) s) : wpAny (model prog w) A (Builtin.Slice.sliceApplied (.ref sl) (pure (n : Int))) Q E s := by
  obtain ⟨ob, g1, g2, g3⟩ := id hs
  unfold Builtin.Slice.sliceApplied Builtin.Slice.sliceFields
  refine wpAny_bind (wpAny_bind (wpAny_field g1 g3 (x := .none) rfl (wpAny_bind (wpAny_field g1 g3 (x := .none) rfl (wpAny_bind (wpAny_field g1 g3 (x := .int (-1) u) rfl (wpAny_pure ?_)))))))
  refine wpAny_bind (slicePart_int ?_)
  show wpAny _ _ (if ((-1 : Int) == 0) = true then _ else _) _ _ s
  rw [if_neg (by decide)]
  refine wpAny_bind (slicePart_none (wpAny_bind (slicePart_none (wpAny_bind (wpAny_pure ?_)))))
  show wpAny _ _ (match Builtin.Slice.sliceAdjust none none (-1) (n : Int) with | (lo, hi) => pure (lo, (-1 : Int), Builtin.Slice.slicePlaces lo hi (-1))) _ _ s
  rw [adj_rev n]
  show wpAny _ _ (pure ((n : Int) - 1, (-1 : Int), Builtin.Slice.slicePlaces ((n : Int) - 1) (-1) (-1))) _ _ s
  rw [plc_rev]
  exact wpAny_pure h
theorem fm_congr {α β : Type} {f g : α → Option β} : ∀ {l : List α}, (∀ x ∈ l, f x = g x) → l.filterMap f = l.filterMap g
  | [], _ => rfl
  | a :: l, h => by rw [List.filterMap_cons, List.filterMap_cons, h a (List.mem_cons_self ..), fm_congr fun x m => h x (List.mem_cons_of_mem _ m)]
theorem pick_revL : ∀ l : List Value, ((List.range l.length).filterMap fun m => l[l.length - 1 - m]?) = l.reverse
  | [] => rfl
  | a :: r => by
    have ih := pick_revL r
    rw [List.length_cons, List.range_succ, List.filterMap_append, List.reverse_cons]
    congr 1
    · rw [← ih]
      refine fm_congr fun m hm => ?_
      have hm := List.mem_range.mp hm
      rw [show r.length + 1 - 1 - m = (r.length - 1 - m) + 1 by omega, List.getElem?_cons_succ]
    · simp
theorem pick_rev (xs : Array Value) : ((List.range xs.size).filterMap fun (m : Nat) => xs[((xs.size : Int) - 1 + (m : Int) * (-1)).toNat]?).toArray = xs.toList.reverse.toArray := by
  rw [← pick_revL xs.toList, Array.length_toList]
  congr 1
  refine fm_congr fun m hm => ?_
  have hm := List.mem_range.mp hm
  rw [show ((xs.size : Int) - 1 + (m : Int) * (-1)).toNat = xs.size - 1 - m by omega, Array.getElem?_toList]
theorem getItem_rev {t sl : Addr} {items : Array Value} {u : Tok} {Q : Value → Shared → Prop} (ht : IsTup s.heap t items) (hs : s.heap.IsSliceOf sl .none .none (.int (-1) u))
    (h : Q (.ref s.heap.objs.size) { s with heap := s.heap.push { cls := .type "tuple", data := .seq items.toList.reverse.toArray } }) (hz : items.size ≤ sizeLine) : wpAny (model prog w) A (getItem (.ref t) (.ref sl)) Q E s := by
  have ok : sizeOk (.seq items.toList.reverse.toArray) := by
    show items.toList.reverse.toArray.size ≤ sizeLine
    simpa using hz
  obtain ⟨ob, g1, g2, g3⟩ := id hs
  have ty : s.TypeIs (.ref sl) "slice" := ⟨ob, g1, g2⟩
  unfold getItem
  try with_reducible refine wpAny_holding ?_
  first | refine wpAny_bind (wpAny_pure ?_) | skip
  refine wpAny_bind (wpAny_sequenceKey ht.typeIs (by decide) ?_)
  refine wpAny_bind (wpAny_callSpecial?_slot (name := Str.ofString "__getitem__") ht.typeIs PyProof.Rows.slot_tuple_getitem (wpAny_call_entry PyProof.Rows.slot_tuple_getitem ht.typeIs entry_tuple_getitem ?_ (args_tuple_getitem _ _)))
  show wpAny _ _ (Builtin.Tuple.tupleItemsOf (.ref t) >>= _) _ _ s
  refine wpAny_bind (tupleItemsOf_ ht (wpAny_bind (wpAny_typeOf ty ?_)))
  rw [if_pos (by decide)]
  refine wpAny_bind (applied_rev hs ?_)
  have no : ¬ (((items.size : Int) - 1 == 0 && (-1 : Int) == 1 && items.size == items.size) = true) := by simp
  show wpAny _ _ (if ((items.size : Int) - 1 == 0 && (-1 : Int) == 1 && items.size == items.size) = true then _ else _) _ _ s
  rw [if_neg no, pick_rev]
  have fin : ∀ {R : Value → Shared → Prop}, R (.ref s.heap.objs.size) { s with heap := s.heap.push { cls := .type "tuple", data := .seq items.toList.reverse.toArray } } → wpAny (model prog w) A.in1 (Builtin.Tuple.tupleExact items.toList.reverse.toArray) R E s := fun q => wpAny_newObj_type q ok
  first
    | exact wpAny_bind (fin (wpAny_pure ⟨_, rfl, wpAny_pure h⟩))
    | exact wpAny_bind (fin (wpAny_bind (wpAny_pure (wpAny_pure ⟨_, rfl, wpAny_pure h⟩))))
    | exact wpAny_bind (wpAny_bind (fin (wpAny_pure (wpAny_pure ⟨_, rfl, wpAny_pure h⟩))))
end
theorem rng_rev (n : Nat) : Builtin.Str.strSliceIndices none none (-1) n = (List.range n).map fun k => n - 1 - k := by
  unfold Builtin.Str.strSliceIndices
  show sliceRange ((n : Int) - 1) (-1) (-1) = _
  unfold sliceRange
  have c : (if (-1 : Int) > 0 then (if (n : Int) - 1 < -1 then (-1 - ((n : Int) - 1) + -1 - 1) / -1 else 0) else (if (n : Int) - 1 > -1 then ((n : Int) - 1 - -1 - -1 - 1) / (- -1) else 0)) = (n : Int) := by
    rw [if_neg (by decide), show (- -1 : Int) = 1 by decide, Int.ediv_one]
    split
    · omega
    · omega
  show (List.range (if (-1 : Int) > 0 then (if (n : Int) - 1 < -1 then (-1 - ((n : Int) - 1) + -1 - 1) / -1 else 0) else (if (n : Int) - 1 > -1 then ((n : Int) - 1 - -1 - -1 - 1) / (- -1) else 0)).toNat).map _ = _
  rw [c]
  refine List.map_congr_left fun k hk => ?_
  have hk := List.mem_range.mp hk
  have hk : k < n := by omega
  omega
theorem pick_revN : ∀ l : List Nat, ((List.range l.length).filterMap fun m => l[l.length - 1 - m]?) = l.reverse
  | [] => rfl
  | a :: r => by
    have ih := pick_revN r
    rw [List.length_cons, List.range_succ, List.filterMap_append, List.reverse_cons]
    congr 1
    · rw [← ih]
      refine fm_congr fun m hm => ?_
      have hm := List.mem_range.mp hm
      rw [show r.length + 1 - 1 - m = (r.length - 1 - m) + 1 by omega, List.getElem?_cons_succ]
    · simp
theorem made_rev (z : Str) (t u : Tok) : PySem.sliceMade z t none none (some (-1, u)) = .str (revS z) := by
  unfold PySem.sliceMade
  rw [if_neg (by simp)]
  unfold PySem.slicePicked
  show Made.str ⟨((Builtin.Str.strSliceIndices none none (-1) z.length).filterMap (z.cps[·]?)).toArray⟩ = _
  rw [rng_rev, List.filterMap_map]
  unfold revS
  rw [← pick_revN z.cps.toList]
  congr 3
  show _ = (List.range z.cps.toList.length).filterMap _
  rw [Array.length_toList]
  refine fm_congr fun m hm => ?_
  show z.cps[z.cps.size - 1 - m]? = z.cps.toList[z.cps.size - 1 - m]?
  rw [Array.getElem?_toList]
/-- t[::-1], t a tuple or a text -/
theorem pe_rvt {X : Cx} {e : Expr} {te : TE} {k : Nat} {p1 p2 p3 pos : Pos} (he : PE X e te) : PE X (.Subscript e (.Slice none none (some (.UnaryOp .USub (.Constant (.int 1) k p1) p2)) p3) pos)
    (fun σ H Q => te σ H fun x H1 => (∃ a xs, x = .ref a ∧ SqT X.K H1 a xs ∧ ∀ p, H1 p = none → Q (.ref p) (upd H1 p (.tup xs.reverse))) ∨ ∃ z, x = .str z ∧ z.length ≤ sizeLine ∧ Q (.str (revS z)) H1) := by
  refine ⟨fun pins s σ H Q I q0 => Subscript_ (thn (he.run pins s σ H _ I q0) fun v s1 got => ?_)⟩
  obtain ⟨x, H1, I1, r1, hxq⟩ := got
  have step : PO X (some (.UnaryOp .USub (.Constant (.int 1) k p1) p2)) (tPart (tUn (rU fun i => .int (-i)) (tC (.int 1)))) := po_some (pe_un un_neg pe_int)
  refine wpAny_Slice (thn (po_none.run pins s1 σ H1 (fun o G => o = none ∧ G = H1) I1 ⟨rfl, rfl⟩) fun w1 s2 g2 => ?_)
  obtain ⟨l, H2, I2, pl, el, e2⟩ := g2
  subst el; subst e2
  refine thn (po_none.run pins s2 σ H2 (fun o G => o = none ∧ G = H2) I2 ⟨rfl, rfl⟩) fun w2 s3 g3 => ?_
  obtain ⟨l3, H3, I3, pu, eu, e3⟩ := g3
  subst eu; subst e3
  refine thn (step.run pins s3 σ H3 (fun o G => o = some (-1) ∧ G = H3) I3 ⟨1, rfl, -1, rfl, rfl, rfl⟩) fun w3 s4 g4 => ?_
  obtain ⟨o4, H4, I4, ps, eo, e4⟩ := g4
  subst eo; subst e4
  cases pl
  cases pu
  cases ps with
  | int i u =>
    have J : Inv X pins σ H4 { s4 with heap := s4.heap.push { cls := .type "slice", data := .fields #[.none, .none, .int (-1) u] } } := I4.kept (t' := s4.toks) fun b ob z => Heap.get?_push_of_some _ z
    rcases hxq with ⟨a, xs, ex, hx, q⟩ | ⟨z, ex, hz, q⟩
    rotate_left
    · subst ex
      obtain ⟨t, rfl⟩ := r1
      refine tail_of_ItemOn (ops := [.ref s4.heap.objs.size, .str z t]) ⟨"str", _, F.slot_str_getitem.lookup, typeIs_str _ _ _, wpAny_getItem_str_slice (l := none) (u := none) (st := some (-1, u)) ⟨_, Heap.get?_push_size _ rfl, rfl, rfl⟩ rfl ?_⟩ (by with_unfolding_all rfl) (by intro _; cases e <;> rfl)
      rw [made_rev]
      refine ⟨?_, .str _, H4, J.tok _, ⟨_, rfl⟩, q⟩
      show (z.cps.toList.reverse.toArray).size ≤ sizeLine
      rw [List.size_toArray, List.length_reverse, Array.length_toList]
      exact hz
    subst ex
    cases r1
    obtain ⟨its, r, ht, hz⟩ := J.tuple hx
    have hlen := r.length
    show wpAny (model X.prog X.w) X.A (subscriptTail e (.Slice none none (some (.UnaryOp .USub (.Constant (.int 1) k p1) p2)) p3) (.ref a) (.ref s4.heap.objs.size)) (EP X pins σ Q) X.xe _
    refine tail_any (ops := [.ref a, .ref s4.heap.objs.size]) ht.typeIs (PyProof.Rows.slot_tuple_getitem.lookup) ?_ (by with_unfolding_all rfl)
    refine getItem_rev ht (Heap.IsSliceOf.new _ .none .none (.int (-1) u)) ?_ (by rw [List.size_toArray]; omega)
    refine ⟨.ref _, _, J.laid (t' := s4.toks) (o := .tup xs.reverse) (fun b ob z => Heap.get?_push_of_some _ z) (Nat.le_refl _) ?_, rfl, q _ (J.hok.fresh (Nat.le_refl _))⟩
    exact ⟨by rw [List.length_reverse]; exact hz, _, r.reverse, IsTup.new _ _⟩
end BB

namespace BB
open PySem PySem.Spec PyProof.Rows L2
section
variable {T : Tab} {B : Bs} {W : WX} {X : Cx}
theorem opt_at {α β : Type} {P : PP α β} {K : PySem.W.Frag} {o : Option α} {G0 : Gh} {s0 s : S} {σ : St} {H0 : Hp} {Q : β → Hp → Prop} (h : At T K B W P (opt o s) G0 s0 σ H0 Q) : ∃ a, o = some a ∧ At T K B W P (.ok a s) G0 s0 σ H0 Q := by
  cases o with
  | none => exact h.elim
  | some a => exact ⟨a, rfl, h⟩
/-- a new thing ends it -/
theorem at_new {K : PySem.W.Frag} {r : R} {G0 G : Gh} {s0 s : S} {σ : St} {H0 H H' : Hp} {v : V} {Q : VK} (h : At T K B W (PR T K B) (.ok r s) G0 s0 σ H0 Q) (p0 : Stp σ G0 s0 H0 G s H) (hR : Rel T K B G s σ H) (n : NewR T K G H H' v r) : Q v H' :=
  let ⟨a, b, c⟩ := new_ok hR n
  h _ _ _ (p0.trans a) b (c.back p0)
theorem sE_tup {es : List Expr} {cs : S → Oc (List R)} {k : Nat} {p : Pos} (h : PA X es (tL T X.K B W cs)) : PE X (.Tuple es k p) (tE T X.K B W fun s => (cs s).bind fun rs s1 => match keepRs rs with
    | some ds => if ds.length ≤ sizeLine then .ok (.va (.tup ds)) s1 else .bad
    | none => .bad) := pe_imp (pe_tup h) fun σ H Q ⟨G, s, hR, q⟩ => by
  refine ⟨G, s, hR, at_bind q (.refl _ _ _ _) fun rs s1 G1 H1 vs st1 z1 R1 p1 q1 => ?_⟩
  split at q1
  · rename_i ds hk
    split at q1
    · rename_i hz
      obtain ⟨G2, st2, R2, rv⟩ := keepN R1 z1 p1 hk
      exact ⟨by rw [rv.length]; exact hz, fun p hp => at_new q1 st2 R2 (.tup hp rv)⟩
    · exact q1.elim
  · exact q1.elim
theorem sE_lst {es : List Expr} {cs : S → Oc (List R)} {p : Pos} (h : PA X es (tL T X.K B W cs)) : PE X (.List es p) (tE T X.K B W fun s => (cs s).bind fun rs s1 => match keepRs rs with
    | some ds => if ds.length ≤ sizeLine then .ok (.fl ds) s1 else .bad
    | none => .bad) := pe_imp (pe_lst h) fun σ H Q ⟨G, s, hR, q⟩ => by
  refine ⟨G, s, hR, at_bind q (.refl _ _ _ _) fun rs s1 G1 H1 vs st1 z1 R1 p1 q1 => ?_⟩
  split at q1
  · rename_i ds hk
    split at q1
    · rename_i hz
      obtain ⟨G2, st2, R2, rv⟩ := keepN R1 z1 p1 hk
      exact ⟨by rw [rv.length]; exact hz, fun p hp => at_new q1 st2 R2 (.lst hp rv)⟩
    · exact q1.elim
  · exact q1.elim
def rUn : UnaryOp → V → Hp → VK → Prop
  | .USub => rU fun i => .int (-i)
  | _ => fun _ _ _ => False
theorem unR (o : UnaryOp) : UnR X (unaryOp o) (rUn o) := by
  cases o with
  | USub => exact un_neg
  | _ => exact fun _ _ _ _ _ _ _ _ _ h => h.elim
theorem sE_un {a : Expr} {ca : S → Oc R} {o : UnaryOp} {p : Pos} (ha : PE X a (tE T X.K B W ca)) : PE X (.UnaryOp o a p) (tE T X.K B W fun s => (ca s).bind fun x s1 => match view s1 x with
    | some u => opt (unV o u) s1
    | _ => .bad) := pe_imp (pe_un (unR o) ha) fun σ H Q ⟨G, s, hR, q⟩ => by
  refine ⟨G, s, hR, at_bind q (.refl _ _ _ _) fun x s1 G1 H1 v1 st1 z1 R1 p1 q1 => ?_⟩
  split at q1
  · rename_i u hu
    obtain ⟨r, hr, q2⟩ := opt_at q1
    have w := view_ok R1 p1 hu
    unfold unV at hr
    split at hr
    · injection hr with hr; subst hr
      cases w with | «at» a => cases a with | int i => exact ⟨_, rfl, at_new q2 z1 R1 (.same (.int _))⟩
    · cases hr
  · exact q1.elim
theorem sE_chain {a b c : Expr} {ca cb cc : S → Oc R} {o o' : CmpOp} {p : Pos} (hu : X.A.units + 65 < cLine) (hm : lastMarks [o, o'] [b, c] = false) (ha : PE X a (tE T X.K B W ca)) (hb : PE X b (tE T X.K B W cb)) (hc : PE X c (tE T X.K B W cc)) :
    PE X (.Compare a [o, o'] [b, c] p) (tE T X.K B W fun s => (ca s).bind fun x s1 => (cb s1).bind fun y s2 => match view s2 x, view s2 y with
    | some u, some v => match cmpV o u v with
      | some true => (cc s2).bind fun z s3 => match view s3 y, view s3 z with
        | some v, some w => opt ((cmpV o' v w).map fun t => .va (.bl t)) s3
        | _, _ => .bad
      | some false => .ok (.va (.bl false)) s2
      | none => .bad
    | _, _ => .bad) := pe_imp (pe_chain (opr_cmp hu o) (opr_cmp hu o') ha hb hc hm) fun σ H Q ⟨G, s, hR, q⟩ => by
  refine ⟨G, s, hR, at_bind q (.refl _ _ _ _) fun x s1 G1 H1 v1 st1 z1 R1 p1 q1 => ⟨G1, s1, R1, at_bind q1 z1 fun y s2 G2 H2 v2 st2 z2 R2 p2 q2 => ?_⟩⟩
  split at q2
  · rename_i u v hu hv
    split at q2
    · rename_i hr
      refine cmp_ok hr (view_ok R2 (RR.mono p1 st2) hu) (view_ok R2 p2 hv) ⟨true, rfl, ?_⟩
      rw [if_pos rfl]
      refine ⟨G2, s2, R2, at_bind q2 z2 fun z s3 G3 H3 v3 st3 z3 R3 p3 q3 => ?_⟩
      split at q3
      · rename_i v' w' hv' hw'
        cases hr : cmpV o' v' w' with
        | none => rw [hr] at q3; exact q3.elim
        | some t =>
          rw [hr] at q3
          exact cmp_ok hr (view_ok R3 (RR.mono p2 st3) hv') (view_ok R3 p3 hw') (at_new q3 z3 R3 (.same (.bl t)))
      · exact q3.elim
    · rename_i hr
      refine cmp_ok hr (view_ok R2 (RR.mono p1 st2) hu) (view_ok R2 p2 hv) ⟨false, rfl, ?_⟩
      rw [if_neg Bool.false_ne_true]
      exact at_new q2 z2 R2 (.same (.bl _))
    · exact q2.elim
  · exact q2.elim
/-! truth -/
theorem asB_bind {α : Type} {o : Oc R} {f : Bool → S → Oc α} : (asB o).bind f = o.bind fun r s => match r with
    | .va (.bl b) => f b s
    | _ => .bad := by
  cases o with
  | ok r s =>
    show ((match r with | .va (.bl b) => Oc.ok b s | _ => .bad) : Oc Bool).bind f = _
    cases r with
    | va d => cases d <;> rfl
    | _ => rfl
  | ex n fs s => rfl
  | bad => rfl
theorem at_asB {β2 : Type} {α : Type} {K : PySem.W.Frag} {P2 : PP α β2} {o : Oc R} {f : Bool → S → Oc α} {G0 G : Gh} {s0 s : S} {σ : St} {H0 H : Hp} {Q : β2 → Hp → Prop} {Q1 : V → Hp → Prop}
    (h : At T K B W P2 ((asB o).bind f) G0 s0 σ H0 Q) (p0 : Stp σ G0 s0 H0 G s H) (k : ∀ t s1 G1 H1, Stp σ G0 s0 H0 G1 s1 H1 → Rel T K B G1 s1 σ H1 → At T K B W P2 (f t s1) G0 s0 σ H0 Q → Q1 (.bl t) H1) : At T K B W (PR T K B) o G s σ H Q1 := by
  rw [asB_bind] at h
  refine at_bind h p0 fun r s1 G1 H1 v st z R1 p1 q1 => ?_
  split at q1
  · cases p1 with | va a => cases a with | bl b => exact k _ s1 G1 H1 z R1 q1
  · exact q1.elim
theorem sE_and {a b : Expr} {rest : List Expr} {ca cr : S → Oc R} {p : Pos} (ha : PE X a (tE T X.K B W ca)) (hr : PE X (.BoolOp .And (b :: rest) p) (tE T X.K B W cr)) :
    PE X (.BoolOp .And (a :: b :: rest) p) (tE T X.K B W fun s => (asB (ca s)).bind fun t s1 => if t = true then cr s1 else .ok (.va (.bl false)) s1) := pe_imp (pe_and ha hr) fun σ H Q ⟨G, s, hR, q⟩ => by
  refine ⟨G, s, hR, at_asB q (.refl _ _ _ _) fun t s1 G1 H1 z1 R1 q1 => ⟨t, rfl, ?_⟩⟩
  cases t with
  | true => exact ⟨G1, s1, R1, at_tail back_R q1 z1⟩
  | false => exact at_new q1 z1 R1 (.same (.bl _))
theorem sE_or {a b : Expr} {rest : List Expr} {ca cr : S → Oc R} {p : Pos} (ha : PE X a (tE T X.K B W ca)) (hr : PE X (.BoolOp .Or (b :: rest) p) (tE T X.K B W cr)) :
    PE X (.BoolOp .Or (a :: b :: rest) p) (tE T X.K B W fun s => (asB (ca s)).bind fun t s1 => if t = true then .ok (.va (.bl true)) s1 else cr s1) := pe_imp (pe_or ha hr) fun σ H Q ⟨G, s, hR, q⟩ => by
  refine ⟨G, s, hR, at_asB q (.refl _ _ _ _) fun t s1 G1 H1 z1 R1 q1 => ⟨t, rfl, ?_⟩⟩
  cases t with
  | true => exact at_new q1 z1 R1 (.same (.bl _))
  | false => exact ⟨G1, s1, R1, at_tail back_R q1 z1⟩
theorem sE_not {a : Expr} {ca : S → Oc R} {p : Pos} (ha : PE X a (tE T X.K B W ca)) : PE X (.UnaryOp .Not a p) (tE T X.K B W fun s => (asB (ca s)).bind fun t s1 => .ok (.va (.bl (!t))) s1) := pe_imp (pe_not ha) fun σ H Q ⟨G, s, hR, q⟩ => by
  exact ⟨G, s, hR, at_asB q (.refl _ _ _ _) fun t s1 G1 H1 z1 R1 q1 => ⟨t, rfl, at_new q1 z1 R1 (.same (.bl _))⟩⟩
theorem sE_ife {t a b : Expr} {ct ca cb : S → Oc R} {p : Pos} (ht : PT X t (tT T X.K B W fun s => asB (ct s))) (ha : PE X a (tE T X.K B W ca)) (hb : PE X b (tE T X.K B W cb)) :
    PE X (.IfExp t a b p) (tE T X.K B W fun s => (asB (ct s)).bind fun t s1 => if t = true then ca s1 else cb s1) := pe_imp (pe_ifExp ht ha hb) fun σ H Q ⟨G, s, hR, q⟩ => by
  refine ⟨G, s, hR, at_bind q (.refl _ _ _ _) fun t s1 G1 H1 b st z1 R1 p1 q1 => ?_⟩
  cases (show b = t from p1)
  cases t with
  | true => exact ⟨G1, s1, R1, at_tail back_R q1 z1⟩
  | false => exact ⟨G1, s1, R1, at_tail back_R q1 z1⟩
/-- tests -/
theorem sT_val {e : Expr} {c : S → Oc R} (h : PE X e (tE T X.K B W c)) (he : ∀ whole, isTrue e X.env whole = (do let v ← whole; standAt e.pos; holding [v] (truthy v))) : PT X e (tT T X.K B W fun s => asB (c s)) := pt_imp (pt_val h he) fun σ H Q ⟨G, s, hR, q⟩ => by
  have q : At T X.K B W PB ((asB (c s)).bind fun t s => .ok t s) G s σ H Q := by
    revert q
    show At T X.K B W PB (asB (c s)) G s σ H Q → _
    cases asB (c s) <;> exact fun q => q
  exact ⟨G, s, hR, at_asB q (.refl _ _ _ _) fun t s1 G1 H1 z1 R1 q1 => ⟨t, rfl, q1 _ _ _ z1 R1 rfl⟩⟩
theorem asB_ok (b : Bool) (s : S) : asB (.ok (.va (.bl b)) s) = .ok b s := rfl
theorem asB_bind2 {α : Type} {o : Oc α} {f : α → S → Oc R} : asB (o.bind f) = o.bind fun a s => asB (f a s) := by
  cases o <;> rfl
theorem sT_not {a : Expr} {ca : S → Oc R} {p : Pos} (ha : PT X a (tT T X.K B W fun s => asB (ca s))) : PT X (.UnaryOp .Not a p) (tT T X.K B W fun s => asB ((asB (ca s)).bind fun t s1 => .ok (.va (.bl (!t))) s1)) := pt_imp (pt_not ha) fun σ H Q ⟨G, s, hR, q⟩ => by
  dsimp only at q
  rw [asB_bind2] at q
  refine ⟨G, s, hR, at_bind q (.refl _ _ _ _) fun t s1 G1 H1 b st z1 R1 p1 q1 => ?_⟩
  cases (show b = t from p1)
  exact q1 _ _ _ z1 R1 rfl
theorem sW_and {a b : Expr} {rest : List Expr} {ca cr : S → Oc R} {p : Pos} (ha : PT X a (tT T X.K B W fun s => asB (ca s))) (hr : PW X (.BoolOp .And (b :: rest) p) (tT T X.K B W fun s => asB (cr s))) :
    PW X (.BoolOp .And (a :: b :: rest) p) (tT T X.K B W fun s => asB ((asB (ca s)).bind fun t s1 => if t = true then cr s1 else .ok (.va (.bl false)) s1)) := pw_imp (pw_and ha hr) fun σ H Q ⟨G, s, hR, q⟩ => by
  dsimp only at q
  rw [asB_bind2] at q
  refine ⟨G, s, hR, at_bind q (.refl _ _ _ _) fun t s1 G1 H1 b st z1 R1 p1 q1 => ?_⟩
  cases (show b = t from p1)
  cases t with
  | true => exact ⟨G1, s1, R1, at_tail back_B q1 z1⟩
  | false => exact q1 _ _ _ z1 R1 rfl
theorem sW_or {a b : Expr} {rest : List Expr} {ca cr : S → Oc R} {p : Pos} (ha : PT X a (tT T X.K B W fun s => asB (ca s))) (hr : PW X (.BoolOp .Or (b :: rest) p) (tT T X.K B W fun s => asB (cr s))) :
    PW X (.BoolOp .Or (a :: b :: rest) p) (tT T X.K B W fun s => asB ((asB (ca s)).bind fun t s1 => if t = true then .ok (.va (.bl true)) s1 else cr s1)) := pw_imp (pw_or ha hr) fun σ H Q ⟨G, s, hR, q⟩ => by
  dsimp only at q
  rw [asB_bind2] at q
  refine ⟨G, s, hR, at_bind q (.refl _ _ _ _) fun t s1 G1 H1 b st z1 R1 p1 q1 => ?_⟩
  cases (show b = t from p1)
  cases t with
  | true => exact q1 _ _ _ z1 R1 rfl
  | false => exact ⟨G1, s1, R1, at_tail back_B q1 z1⟩
theorem sT_cmp {a b : Expr} {ca cb : S → Oc R} {o : CmpOp} {p : Pos} (hu : X.A.units + 65 < cLine) (hm : behindInMarks o b = false) (ha : PE X a (tE T X.K B W ca)) (hb : PE X b (tE T X.K B W cb)) :
    PT X (.Compare a [o] [b] p) (tT T X.K B W fun s => asB ((ca s).bind fun x s1 => (cb s1).bind fun y s2 => match view s2 x, view s2 y with
    | some u, some v => opt ((cmpS s2.st o u v).map fun t => .va (.bl t)) s2
    | _, _ => .bad)) := pt_imp (pt_cmpR (opr_cmp hu o) ha hb hm) fun σ H Q ⟨G, s, hR, q⟩ => by
  dsimp only at q
  rw [asB_bind2] at q
  refine ⟨G, s, hR, at_bind q (.refl _ _ _ _) fun x s1 G1 H1 v1 st1 z1 R1 p1 q1 => ⟨G1, s1, R1, ?_⟩⟩
  rw [asB_bind2] at q1
  refine at_bind q1 z1 fun y s2 G2 H2 v2 st2 z2 R2 p2 q2 => ?_
  split at q2
  · rename_i u v hu hv
    cases hr : cmpS s2.st o u v with
    | none => rw [hr] at q2; exact q2.elim
    | some t =>
      rw [hr] at q2
      exact cmpS_ok R2.c hr (view_ok R2 (RR.mono p1 st2) hu) (view_ok R2 p2 hv) ⟨t, rfl, q2 G2 H2 _ z2 R2 rfl⟩
  · exact q2.elim
theorem sT_chain {a b c : Expr} {ca cb cc : S → Oc R} {o o' : CmpOp} {p : Pos} (hu : X.A.units + 65 < cLine) (hm : lastMarks [o, o'] [b, c] = false) (ha : PE X a (tE T X.K B W ca)) (hb : PE X b (tE T X.K B W cb)) (hc : PE X c (tE T X.K B W cc)) :
    PT X (.Compare a [o, o'] [b, c] p) (tT T X.K B W fun s => asB ((ca s).bind fun x s1 => (cb s1).bind fun y s2 => match view s2 x, view s2 y with
    | some u, some v => match cmpV o u v with
      | some true => (cc s2).bind fun z s3 => match view s3 y, view s3 z with
        | some v, some w => opt ((cmpV o' v w).map fun t => .va (.bl t)) s3
        | _, _ => .bad
      | some false => .ok (.va (.bl false)) s2
      | none => .bad
    | _, _ => .bad)) := pt_imp (pt_chain (opr_cmp hu o) (opr_cmp hu o') ha hb hc hm) fun σ H Q ⟨G, s, hR, q⟩ => by
  dsimp only at q
  rw [asB_bind2] at q
  refine ⟨G, s, hR, at_bind q (.refl _ _ _ _) fun x s1 G1 H1 v1 st1 z1 R1 p1 q1 => ⟨G1, s1, R1, ?_⟩⟩
  rw [asB_bind2] at q1
  refine at_bind q1 z1 fun y s2 G2 H2 v2 st2 z2 R2 p2 q2 => ?_
  split at q2
  · rename_i u v hu hv
    split at q2
    · rename_i hr
      refine cmp_ok hr (view_ok R2 (RR.mono p1 st2) hu) (view_ok R2 p2 hv) ⟨true, rfl, ?_⟩
      rw [if_pos rfl]
      rw [asB_bind2] at q2
      refine ⟨G2, s2, R2, at_bind q2 z2 fun z s3 G3 H3 v3 st3 z3 R3 p3 q3 => ?_⟩
      split at q3
      · rename_i v' w' hv' hw'
        cases hr : cmpV o' v' w' with
        | none => rw [hr] at q3; exact q3.elim
        | some t =>
          rw [hr] at q3
          exact cmp_ok hr (view_ok R3 (RR.mono p2 st3) hv') (view_ok R3 p3 hw') ⟨t, rfl, q3 _ _ _ z3 R3 rfl⟩
      · exact q3.elim
    · rename_i hr
      refine cmp_ok hr (view_ok R2 (RR.mono p1 st2) hu) (view_ok R2 p2 hv) ⟨false, rfl, ?_⟩
      rw [if_neg Bool.false_ne_true]
      exact ⟨false, rfl, q2 _ _ _ z2 R2 rfl⟩
    · exact q2.elim
  · exact q2.elim
end
end BB

namespace BB
open PySem PySem.Spec PyProof.Rows L2
/-- arguments, none of them starred -/
def Plain (env : Env) (es : List Expr) : Prop := ∀ e r, es = e :: r → starEach (e :: r) env = (false, eval e env) :: starEach r env ∧ (backTo default (starEach r env)).any (·.1) = false
section
variable {T : Tab} {B : Bs} {W : WX} {X : Cx}
/-- a tuple that is none of the written part -/
theorem tup_of {s0 s : S} {H0 H : Hp} {G : Gh} {σ : St} {a : Addr} {r : R} {l : List D} (hR : Rel T X.K B G s σ H) (h : RR T X.K B s0 H0 G s σ H (.ref a) r) (e : view s r = some (.at (.tup l))) (hk : isKt r = false) : ∃ us, H a = some (.tup us) ∧ RVs T X.K G H us l := by
  cases r with
  | fl _ => cases e
  | fd _ _ => cases e
  | own i =>
    have e : vwSl s.env[i]? = some (.at (.tup l)) := e
    cases q : s.env[i]? with
    | none => rw [q] at e; cases e
    | some x => rw [q] at e; cases x <;> cases e
  | va d =>
    cases d <;> first | (cases e; done) | skip
    · injection e with e; injection e with e; injection e with e; subst e
      cases h with | va h => cases h with | tup a b => exact ⟨_, a, b⟩
    · cases hk
    · rename_i i
      have e : vwBx i s.st[i]? = some (.at (.tup l)) := e
      cases q : s.st[i]? with
      | none => rw [q] at e; cases e
      | some x => rw [q] at e; cases x <;> cases e
theorem sE_bi {b : Bi} {e : Expr} {es : List Expr} {cs : S → Oc (List R)} {px p : Pos} (hc : X.calm = true) (hg : Gl X b.name) (hm : X.mg b.name = none) (ha : PA X (e :: es) (tL T X.K B W cs))
    (he : starEach (e :: es) X.env = (false, eval e X.env) :: starEach es X.env) (hpl : (backTo p (starEach es X.env)).any (·.1) = false) :
    PE X (.Call (.Name b.name px) (e :: es) [] p) (tE T X.K B W fun s => (cs s).bind fun rs s1 => match views s1 rs with
    | some vs => if rs.any isKt = false ∨ b.notT = true then opt (biV b vs) s1 else .bad
    | none => .bad) := by
  have h : PE X (.Call (.Name b.name px) (e :: es) [] p) (tCB (rBi X.K b) (tL T X.K B W cs)) := by
    have hv := b.boot
    have hn := b.ne
    have hd := b.nd
    have hr := callR_bi hc b
    cases b <;> first
      | exact pe_callB hr hg hm hv ha hn hd he hpl
      | exact pe_callTy hr hg hm hv ha hn hd he hpl
  refine pe_imp h fun σ H Q ⟨G, s, hR, q⟩ => ?_
  refine ⟨G, s, hR, at_bind q (.refl _ _ _ _) fun rs s1 G1 H1 vs st1 z1 R1 p1 q1 => ?_⟩
  split at q1
  · rename_i ws hw
    split at q1
    · rename_i hk
      obtain ⟨r, hr, q2⟩ := opt_at q1
      refine bi_ok hr (RRs.views R1 p1 hw) (fun hn a l ev ew => ?_) fun H' w n => at_new q2 z1 R1 n
      subst ev; subst ew
      have hk : rs.any isKt = false := hk.resolve_right (by rw [hn]; decide)
      cases p1 with
      | @cons v r' vs' rs' pr pt =>
        cases pt
        have hv : view s1 r' = some (.at (.tup l)) := by
          cases h : view s1 r' with
          | none => have hw : (match view s1 r', views s1 [] with | some v, some vs => some (v :: vs) | _, _ => none) = some [Vw.at (.tup l)] := hw
                    rw [h] at hw; cases hw
          | some w => have hw : (match view s1 r', views s1 [] with | some v, some vs => some (v :: vs) | _, _ => none) = some [Vw.at (.tup l)] := hw
                      rw [h] at hw
                      have hw : some [w] = some [Vw.at (.tup l)] := hw
                      injection hw with hw; injection hw with hw _; rw [hw]
        exact tup_of R1 pr hv (by simpa using hk)
    · exact q1.elim
  · exact q1.elim
theorem Mt.facts (m : Mt) (h : m.id ∈ ["str.count", "str.split", "str.join", "str.upper", "str.startswith", "str.endswith", "str.index"]) : PlainAttrs "str" ∧ PySem.Slot "str" m.name m.id ∧ typeOf (.builtin m.id) = pure (.type "method_descriptor") := by
  cases m <;> first
    | exact ⟨PySem.F.plainAttrs_str, PySem.F.slot_str_count, PySem.F.type_str_count⟩
    | exact ⟨PySem.F.plainAttrs_str, PySem.F.slot_str_split, PySem.F.type_str_split⟩
    | exact ⟨PySem.F.plainAttrs_str, PySem.F.slot_str_join, PySem.F.type_str_join⟩
    | exact ⟨PySem.F.plainAttrs_str, PySem.F.slot_str_upper, PySem.F.type_str_upper⟩
    | exact ⟨PySem.F.plainAttrs_str, PySem.F.slot_str_startswith, PySem.F.type_str_startswith⟩
    | exact ⟨PySem.F.plainAttrs_str, PySem.F.slot_str_endswith, PySem.F.type_str_endswith⟩
    | exact ⟨PySem.F.plainAttrs_str, PySem.F.slot_str_index, PySem.F.type_str_index⟩
    | exact absurd h (by decide)
theorem dkey_of {d : D} {k : Key} (h : keyD d = some k) : dkey d = some (.inl k) := by
  cases d <;> first | (cases h; done) | (injection h with h; subst h; rfl)
theorem sE_mt {m : Mt} {o e : Expr} {es : List Expr} {co : S → Oc R} {cs : S → Oc (List R)} {pa p : Pos} (hi : m.id ∈ ["str.count", "str.split", "str.join", "str.upper", "str.startswith", "str.endswith", "str.index"]) (ho : PE X o (tE T X.K B W co)) (ha : PA X (e :: es) (tL T X.K B W cs))
    (hbase : attributeBase o m.name X.env (eval o X.env) = eval o X.env) (he : starEach (e :: es) X.env = (false, eval e X.env) :: starEach es X.env) (hpl : (backTo p (starEach es X.env)).any (·.1) = false)
    (hfew : ((backTo p (starEach (e :: es) X.env)).all (fun x => !x.1) && (backToKw p (keywordEach [] X.env)).all (fun x => x.1.isSome)
      && decide ((e :: es).length + ([] : List Keyword).length + (if ([] : List Keyword).isEmpty then 0 else 1) < 30)) = true)
    (hline : (pa.endLine == p.line) = true) : PE X (.Call (.Attribute o m.name pa) (e :: es) [] p) (tE T X.K B W fun s => (co s).bind fun x s1 => match x with
    | .va (.str a) => (cs s1).bind fun rs s2 => match views s2 rs with
      | some vs => opt (mtV m (.at (.str a)) vs) s2
      | _ => .bad
    | _ => .bad) := by
  obtain ⟨f1, f2, f3⟩ := m.facts hi
  refine pe_imp (pe_bm f1 f2 f3 (mtR m) ho ha hbase hfew hline he hpl) fun σ H Q ⟨G, s, hR, q⟩ => ?_
  refine ⟨G, s, hR, at_bind q (.refl _ _ _ _) fun x s1 G1 H1 v1 st1 z1 R1 p1 q1 => ?_⟩
  split at q1
  · rename_i a
    obtain rfl : v1 = .str a := by cases p1 with | va p1 => cases p1; rfl
    refine ⟨rfl, G1, s1, R1, at_bind q1 z1 fun rs s2 G2 H2 vs st2 z2 R2 p2 q2 => ?_⟩
    split at q2
    · rename_i ws hw
      obtain ⟨r, hr, q3⟩ := opt_at q2
      exact (mt_ok hr (.at (.str a)) (RRs.views R2 p2 hw) fun H' w n => at_new q3 z2 R2 n).2
    · exact q2.elim
  · exact q1.elim
theorem sE_mt0 {m : Mt} {o : Expr} {co : S → Oc R} {pa p : Pos} (hi : m.id ∈ ["str.count", "str.split", "str.join", "str.upper", "str.startswith", "str.endswith", "str.index"]) (ho : PE X o (tE T X.K B W co))
    (hbase : attributeBase o m.name X.env (eval o X.env) = eval o X.env) (hline : (pa.endLine == p.line) = true) : PE X (.Call (.Attribute o m.name pa) [] [] p) (tE T X.K B W fun s => (co s).bind fun x s1 => match x with
    | .va (.str a) => (Oc.ok ([] : List R) s1).bind fun rs s2 => match views s2 rs with
      | some vs => opt (mtV m (.at (.str a)) vs) s2
      | _ => .bad
    | _ => .bad) := by
  obtain ⟨f1, f2, f3⟩ := m.facts hi
  refine pe_imp (pe_bm0 f1 f2 f3 (mtR m) ho hbase hline) fun σ H Q ⟨G, s, hR, q⟩ => ?_
  refine ⟨G, s, hR, at_bind q (.refl _ _ _ _) fun x s1 G1 H1 v1 st1 z1 R1 p1 q1 => ?_⟩
  split at q1
  · rename_i a
    obtain rfl : v1 = .str a := by cases p1 with | va p1 => cases p1; rfl
    obtain ⟨r, hr, q3⟩ := opt_at q1
    exact ⟨rfl, (mt_ok hr (.at (.str a)) .nil fun H' w n => at_new q3 z1 R1 n).2⟩
  · exact q1.elim
theorem sE_ix {a b : Expr} {ca cb : S → Oc R} {p : Pos} (ha : PE X a (tE T X.K B W ca)) (hb : PE X b (tE T X.K B W cb)) (hp : PlainIx b) : PE X (.Subscript a b p) (tE T X.K B W fun s => (ca s).bind fun x s1 => (cb s1).bind fun y s2 => match view s2 x, view s2 y with
    | some u, some v => opt ((ixV u v).map .va) s2
    | _, _ => .bad) := pe_imp (pe_ix (ix_list.or (ix_tup.or ix_str)) ha hb hp) fun σ H Q ⟨G, s, hR, q⟩ => by
  refine ⟨G, s, hR, at_bind q (.refl _ _ _ _) fun x s1 G1 H1 v1 st1 z1 R1 p1 q1 => ⟨G1, s1, R1, at_bind q1 z1 fun y s2 G2 H2 v2 st2 z2 R2 p2 q2 => ?_⟩⟩
  split at q2
  · rename_i u v hu hv
    obtain ⟨r, hr, q3⟩ := opt_at q2
    cases h : ixV u v with
    | none => rw [h] at hr; cases hr
    | some d =>
      rw [h] at hr; injection hr with hr; subst hr
      exact ix_ok h (view_ok R2 (RR.mono p1 st2) hu) (view_ok R2 p2 hv) fun x rx => at_new q3 z2 R2 (.same rx)
  · exact q2.elim
abbrev tO (c : S → Oc (Option Int)) : TO := tG T X.K B W PO1 c
theorem sO_no : PO X none (tO (T := T) (B := B) (W := W) (X := X) fun s => .ok none s) := ⟨fun pins s σ H Q I ⟨G, s', hR, q⟩ => po_none.run pins s σ H Q I (q G H none (.refl _ _ _ _) hR rfl)⟩
theorem sO_so {e : Expr} {c : S → Oc R} (h : PE X e (tE T X.K B W c)) : PO X (some e) (tO (T := T) (B := B) (W := W) (X := X) fun s => (c s).bind fun r s1 => match r with
    | .va (.int i) => .ok (some i) s1
    | _ => .bad) := ⟨fun pins s σ H Q I ⟨G, s', hR, q⟩ => (po_some h).run pins s σ H Q I (by
  refine ⟨G, s', hR, at_bind q (.refl _ _ _ _) fun x s1 G1 H1 v1 st1 z1 R1 p1 q1 => ?_⟩
  split at q1
  · cases p1 with | va p1 => cases p1 with | int i => exact ⟨_, rfl, q1 _ _ _ z1 R1 rfl⟩
  · exact q1.elim)⟩
theorem sE_sl {a : Expr} {lo hi : Option Expr} {ca : S → Oc R} {cl ch : S → Oc (Option Int)} {ps p : Pos} (ha : PE X a (tE T X.K B W ca)) (hl : PO X lo (tO (T := T) (B := B) (W := W) (X := X) cl)) (hh : PO X hi (tO (T := T) (B := B) (W := W) (X := X) ch)) :
    PE X (.Subscript a (.Slice lo hi none ps) p) (tE T X.K B W fun s => (ca s).bind fun x s1 => (cl s1).bind fun l s2 => (ch s2).bind fun h s3 => match view s3 x with
    | some u => if kslOk x l h = true then opt (slV u l h) s3 else .bad
    | none => .bad) := pe_imp (pe_slice (sl_list.or (sl_tupA.or sl_str)) ha hl hh) fun σ H Q ⟨G, s, hR, q⟩ => by
  refine ⟨G, s, hR, at_bind q (.refl _ _ _ _) fun x s1 G1 H1 v1 st1 z1 R1 p1 q1 => ⟨G1, s1, R1, at_bind q1 z1 fun l s2 G2 H2 l' st2 z2 R2 p2 q2 => ⟨G2, s2, R2, at_bind q2 z2 fun h s3 G3 H3 h' st3 z3 R3 p3 q3 => ?_⟩⟩⟩
  cases (show l' = l from p2)
  cases (show h' = h from p3)
  split at q3
  · rename_i u hu
    split at q3
    · rename_i hks
      obtain ⟨r, hr, q4⟩ := opt_at q3
      have pm := RR.mono p1 (st2.trans st3)
      refine sl_ok hr (view_ok R3 pm hu) (fun b l ev eu hl => ?_) fun H' w n => at_new q4 z3 R3 n
      subst ev; subst eu
      refine tup_of R3 pm hu ?_
      cases x with
      | va d =>
        cases d <;> first | rfl | skip
        have hks : decide ((cutD _ _ _).length ≠ _) = true := hks
        injection hu with hu; injection hu with hu; injection hu with hu; subst hu
        exact absurd hl (of_decide_eq_true hks)
      | _ => rfl
    · exact q3.elim
  · exact q3.elim
theorem VW.isD {K : PySem.W.Frag} {G : Gh} {H : Hp} {v : V} {w : Vw} {z : Bool × List (D × D)} (h : VW T K G H v w) (e : dcV (some w) = some z) : ∃ a, v = .ref a ∧ IsD H a := by
  cases h with
  | dcK p _ => exact ⟨_, rfl, .inl ⟨_, .inl p⟩⟩
  | dcT p _ => exact ⟨_, rfl, .inr ⟨_, .inl p⟩⟩
  | dlK p _ => exact ⟨_, rfl, .inl ⟨_, .inr ⟨_, p⟩⟩⟩
  | dlT p _ => exact ⟨_, rfl, .inr ⟨_, .inr ⟨_, p⟩⟩⟩
  | «at» _ => cases e
  | ls _ _ => cases e
  | sc _ _ => cases e
theorem dcV_some {o : Option Vw} {z : Bool × List (D × D)} (e : dcV o = some z) : ∃ w, o = some w := by
  cases o with
  | none => cases e
  | some w => exact ⟨w, rfl⟩
theorem keyT_f {d : D} {q : Sum Key (List Key)} (h : keyT false d = some q) : ∃ k, q = .inl k ∧ dkey d = some (.inl k) := by
  unfold keyT at h
  split at h
  · rename_i k e; rw [if_pos rfl] at h; injection h with h; subst h; exact ⟨k, rfl, e⟩
  · rw [if_neg (by decide)] at h; cases h
  · cases h
theorem keyT_t {d : D} {q : Sum Key (List Key)} (h : keyT true d = some q) : ∃ k, q = .inr k ∧ dkey d = some (.inr k) := by
  unfold keyT at h
  split at h
  · rw [if_neg (by decide)] at h; cases h
  · rename_i k e; rw [if_pos rfl] at h; injection h with h; subst h; exact ⟨k, rfl, e⟩
  · cases h
theorem VW.dget {K : PySem.W.Frag} {G : Gh} {H : Hp} {v y : V} {w : Vw} {t : Bool} {l : List (D × D)} {kd : D} {q : Sum Key (List Key)} (h : VW T K G H v w) (e : dcV (some w) = some (t, l)) (hk : keyT t kd = some q) (rk : RV T K G H y kd) :
    ∃ a, v = .ref a ∧ ((DGet H a y none ∧ BB.dget q l = none) ∨ ∃ v d, DGet H a y (some v) ∧ BB.dget q l = some d ∧ RV T K G H v d) := by
  have kK : ∀ {a : Addr} {vs : List (Key × V)} {l : List (D × D)} {q : Sum Key (List Key)}, Rd H a (.dK vs) → RKs T K G H vs l → keyT false kd = some q → ∃ a', V.ref a = .ref a' ∧ ((DGet H a' y none ∧ BB.dget q l = none) ∨ ∃ v d, DGet H a' y (some v) ∧ BB.dget q l = some d ∧ RV T K G H v d) := fun e r hk => by
    obtain ⟨k, rfl, e2⟩ := keyT_f hk
    rw [key_of e2 rk]
    refine ⟨_, rfl, ?_⟩
    rcases r.get k with ⟨h1, h2⟩ | ⟨v, d, h1, h2, h3⟩
    · exact .inl ⟨.inl ⟨_, k, e, rfl, h1.symm⟩, h2⟩
    · exact .inr ⟨v, d, .inl ⟨_, k, e, rfl, h1.symm⟩, h2, h3⟩
  have kT : ∀ {a : Addr} {vs : List (List Key × V)} {l : List (D × D)} {q : Sum Key (List Key)}, Rd H a (.dT vs) → RTs T K G H vs l → keyT true kd = some q → ∃ a', V.ref a = .ref a' ∧ ((DGet H a' y none ∧ BB.dget q l = none) ∨ ∃ v d, DGet H a' y (some v) ∧ BB.dget q l = some d ∧ RV T K G H v d) := fun e r hk => by
    obtain ⟨k, rfl, e2⟩ := keyT_t hk
    obtain ⟨b, rfl, eb⟩ := tkey_of e2 rk
    refine ⟨_, rfl, ?_⟩
    rcases r.get k with ⟨h1, h2⟩ | ⟨v, d, h1, h2, h3⟩
    · exact .inl ⟨.inr ⟨_, k, b, e, rfl, eb, h1.symm⟩, h2⟩
    · exact .inr ⟨v, d, .inr ⟨_, k, b, e, rfl, eb, h1.symm⟩, h2, h3⟩
  cases h with
  | dcK p r => injection e with e; injection e with e1 e2; subst e1; subst e2; exact kK (.inl p) r hk
  | dlK p r => injection e with e; injection e with e1 e2; subst e1; subst e2; exact kK (.inr ⟨_, p⟩) r hk
  | dcT p r => injection e with e; injection e with e1 e2; subst e1; subst e2; exact kT (.inl p) r hk
  | dlT p r => injection e with e; injection e with e1 e2; subst e1; subst e2; exact kT (.inr ⟨_, p⟩) r hk
  | «at» _ => cases e
  | ls _ _ => cases e
  | sc _ _ => cases e
theorem sE_dix {a b : Expr} {ca cb : S → Oc R} {p : Pos} (hu : X.A.units + 1 < cLine) (ha : PE X a (tE T X.K B W ca)) (hb : PE X b (tE T X.K B W cb)) (hp : NoSl b) : PE X (.Subscript a b p) (tE T X.K B W fun s => (ca s).bind fun x s1 => (cb s1).bind fun y s2 => match dcV (view s2 x), keepR y with
    | some (t, l), some k => match keyT t k with
      | some q => opt ((dget q l).map .va) s2
      | none => .bad
    | _, _ => .bad) := pe_imp (pe_dget hu ha hb hp) fun σ H Q ⟨G, s, hR, q⟩ => by
  refine ⟨G, s, hR, at_bind q (.refl _ _ _ _) fun x s1 G1 H1 v1 st1 z1 R1 p1 q1 => ⟨G1, s1, R1, at_bind q1 z1 fun y s2 G2 H2 v2 st2 z2 R2 p2 q2 => ?_⟩⟩
  split at q2
  · rename_i t l k hu hk
    obtain ⟨w, hw⟩ := dcV_some hu
    rw [hw] at hu
    split at q2
    · rename_i kk hkk
      obtain ⟨r, hr, q3⟩ := opt_at q2
      obtain ⟨G3, st3, R3, rv⟩ := keep1 R2 st2 p2 hk
      obtain ⟨a, rfl, g⟩ := (view_ok R3 (RR.mono p1 st3) hw).dget hu hkk rv
      rcases g with ⟨_, g⟩ | ⟨v, d, g1, g2, g3⟩
      · rw [g] at hr; cases hr
      · rw [g2] at hr; injection hr with hr; subst hr
        exact ⟨a, v, rfl, g1, at_new q3 (z1.trans st3) R3 (.same g3)⟩
    · exact q2.elim
  · exact q2.elim
/-- a test's reading from the value's -/
theorem asB_at {o : Oc R} {G : Gh} {s : S} {σ : St} {H : Hp} {Q : Bool → Hp → Prop} (h : At T X.K B W PB (asB o) G s σ H Q) : At T X.K B W (PR T X.K B) o G s σ H fun v H => ∃ c, v = .bl c ∧ Q c H := by
  cases o with
  | ok r s1 =>
    cases r with
    | va d =>
      cases d with
      | bl b =>
        intro G1 H1 v st R1 p1
        have q := h G1 H1 b st R1 rfl
        have p1 : RR T X.K B s H G1 s1 σ H1 v (.va (.bl b)) := p1
        cases p1 with
        | va z => cases z; exact ⟨b, rfl, q⟩
      | _ => exact h.elim
    | _ => exact h.elim
  | ex n fs s1 => exact h
  | bad => exact h
theorem pc_imp {op : CmpOp} {a b : Expr} {t t' : TE} (h : PC X op a b t) (i : ∀ σ H Q, t' σ H Q → t σ H Q) : PC X op a b t' := ⟨fun pins s σ H Q I q => h.run pins s σ H Q I (i σ H Q q)⟩
def dinC (n : Bool) (ca cb : S → Oc R) (s : S) : Oc R := (ca s).bind fun x s1 => (cb s1).bind fun y s2 => match keepR x, dcV (view s2 y) with
    | some k, some (t, l) => match keyT t k with
      | some q => .ok (.va (.bl (if n = true then !(dget q l).isSome else (dget q l).isSome))) s2
      | none => .bad
    | _, _ => .bad
theorem din_at {ca cb : S → Oc R} {n : Bool} {σ : St} {H : Hp} {Q : VK} (h : tE T X.K B W (dinC n ca cb) σ H Q) :
    tE T X.K B W ca σ H fun y H1 => tE T X.K B W cb σ H1 fun x H2 => ∃ a o, x = .ref a ∧ DGet H2 a y o ∧ Q (.bl (if n = true then !o.isSome else o.isSome)) H2 := by
  obtain ⟨G, s, hR, q⟩ := h
  refine ⟨G, s, hR, at_bind q (.refl _ _ _ _) fun x s1 G1 H1 v1 st1 z1 R1 p1 q1 => ⟨G1, s1, R1, at_bind q1 z1 fun y s2 G2 H2 v2 st2 z2 R2 p2 q2 => ?_⟩⟩
  split at q2
  · rename_i k t l hk hu
    obtain ⟨w, hw⟩ := dcV_some hu
    rw [hw] at hu
    split at q2
    · rename_i kk hkk
      obtain ⟨G3, st3, R3, rv, P3⟩ := keep1p R2 (st1.trans st2) (RR.mono p1 st2) hk
      obtain ⟨a, rfl, g⟩ := ((view_ok R2 p2 hw).mono P3).dget hu hkk rv
      rcases g with ⟨g1, g⟩ | ⟨v, d, g1, g2, g3⟩
      · rw [g] at q2
        exact ⟨a, none, rfl, g1, q2 G2 H2 _ z2 R2 (.va (.bl _))⟩
      · rw [g2] at q2
        exact ⟨a, some v, rfl, g1, q2 G2 H2 _ z2 R2 (.va (.bl _))⟩
    · exact q2.elim
  · exact q2.elim
theorem sC_din {a b : Expr} {ca cb : S → Oc R} {n : Bool} (hu : X.A.units + 1 < cLine) (ha : PE X a (tE T X.K B W ca)) (hb : PE X b (tE T X.K B W cb)) : PC X (if n = true then .NotIn else .In) a b (tE T X.K B W (dinC n ca cb)) := by
  cases n with
  | true => exact pc_imp (pc_dnotin hu ha hb) fun σ H Q q => din_at q
  | false => exact pc_imp (pc_din hu ha hb) fun σ H Q q => din_at q
theorem sE_din {a b : Expr} {ca cb : S → Oc R} {n : Bool} {p : Pos} (hu : X.A.units + 1 < cLine) (ha : PE X a (tE T X.K B W ca)) (hb : PE X b (tE T X.K B W cb)) (hm : behindInMarks (if n = true then .NotIn else .In) b = false) :
    PE X (.Compare a [if n = true then .NotIn else .In] [b] p) (tE T X.K B W (dinC n ca cb)) := pe_cmp (sC_din hu ha hb) hm
theorem sT_din {a b : Expr} {ca cb : S → Oc R} {n : Bool} {p : Pos} (hu : X.A.units + 1 < cLine) (ha : PE X a (tE T X.K B W ca)) (hb : PE X b (tE T X.K B W cb)) (hm : behindInMarks (if n = true then .NotIn else .In) b = false) :
    PT X (.Compare a [if n = true then .NotIn else .In] [b] p) (tT T X.K B W fun s => asB (dinC n ca cb s)) := pt_imp (pt_cmp (sC_din hu ha hb) hm) fun σ H Q ⟨G, s, hR, q⟩ => ⟨G, s, hR, asB_at q⟩
theorem RVs.rvs {K : PySem.W.Frag} {G : Gh} {H : Hp} : ∀ {vs : List V} {l : List D}, RVs T K G H vs l → RVs T K G H vs.reverse l.reverse
  | _, _, .nil => .nil
  | _, _, .cons r t => by
    rw [List.reverse_cons, List.reverse_cons]
    exact (RVs.rvs t).append (.cons r .nil)
theorem sE_rvt {a : Expr} {ca : S → Oc R} {k : Nat} {p1 p2 p3 p : Pos} (ha : PE X a (tE T X.K B W ca)) : PE X (.Subscript a (.Slice none none (some (.UnaryOp .USub (.Constant (.int 1) k p1) p2)) p3) p) (tE T X.K B W fun s => (ca s).bind fun x s1 => match view s1 x with
    | some (.at (.tup l)) => .ok (.va (.tup l.reverse)) s1
    | some (.at (.str z)) => if z.length ≤ sizeLine then .ok (.va (.str (revS z))) s1 else .bad
    | _ => .bad) := pe_imp (pe_rvt ha) fun σ H Q ⟨G, s, hR, q⟩ => by
  refine ⟨G, s, hR, at_bind q (.refl _ _ _ _) fun x s1 G1 H1 v1 st1 z1 R1 p1 q1 => ?_⟩
  split at q1
  · rename_i l hu
    have w := view_ok R1 p1 hu
    cases w with
    | «at» c => cases c with
      | tup sq rs => exact .inl ⟨_, _, rfl, sq, fun p hp => at_new q1 z1 R1 (.tup hp rs.rvs)⟩
  · rename_i z hu
    have w := view_ok R1 p1 hu
    split at q1
    · rename_i hz
      cases w with
      | «at» c => cases c with
        | str => exact .inr ⟨z, rfl, hz, q1 _ _ _ z1 R1 (.va (.str _))⟩
    · exact q1.elim
  · exact q1.elim
theorem sE_get2 {o a b : Expr} {co ca cb : S → Oc R} {pa p : Pos} (hu : X.A.units + 1 < cLine) (ho : PE X o (tE T X.K B W co)) (ha : PE X a (tE T X.K B W ca)) (hb : PE X b (tE T X.K B W cb)) (m : M2 X o "get" pa a b p) : PE X (.Call (.Attribute o "get" pa) [a, b] [] p) (tE T X.K B W fun s => (co s).bind fun x s1 => match dcV (view s1 x) with
    | some _ => (ca s1).bind fun y s2 => (cb s2).bind fun z s3 => match dcV (view s3 x), keepRs [y, z] with
      | some (t, l), some [k, d] => match keyT t k with
        | some q => .ok (.va ((dget q l).getD d)) s3
        | none => .bad
      | _, _ => .bad
    | _ => .bad) := pe_imp (pe_dget2 hu ho ha hb m) fun σ H Q ⟨G, s, hR, q⟩ => by
  refine ⟨G, s, hR, at_bind q (.refl _ _ _ _) fun x s1 G1 H1 v1 st1 z1 R1 p1 q1 => ?_⟩
  split at q1
  · rename_i l0 hl0
    obtain ⟨w0, hw0⟩ := dcV_some hl0
    rw [hw0] at hl0
    obtain ⟨a0, rfl, isd⟩ := (view_ok R1 p1 hw0).isD hl0
    refine ⟨a0, rfl, isd, G1, s1, R1, at_bind q1 z1 fun y s2 G2 H2 v2 st2 z2 R2 p2 q2 => ⟨G2, s2, R2, at_bind q2 z2 fun z s3 G3 H3 v3 st3 z3 R3 p3 q3 => ?_⟩⟩
    split at q3
    · rename_i t l k d hl hk
      obtain ⟨w, hw⟩ := dcV_some hl
      rw [hw] at hl
      split at q3
      · rename_i kk hkk
        have pr : RRs T X.K B s1 H1 G3 s3 σ H3 [v2, v3] [y, z] := .cons (p2.mono st3) (.cons (p3.back st2) .nil)
        obtain ⟨G4, st4, R4, rv⟩ := keepN R3 (st2.trans st3) pr hk
        cases rv with
        | cons r1 rv => cases rv with
          | cons r2 rv =>
            have vw := view_ok R4 (RR.mono p1 st4) hw
            obtain ⟨a, e, g⟩ := vw.dget hl hkk r1
            cases e
            rcases g with ⟨g1, g2⟩ | ⟨v, d', g1, g2, g3⟩
            · rw [g2] at q3
              exact ⟨none, g1, at_new q3 (z1.trans st4) R4 (.same r2)⟩
            · rw [g2] at q3
              exact ⟨some v, g1, at_new q3 (z1.trans st4) R4 (.same g3)⟩
      · exact q3.elim
    · exact q3.elim
  · exact q1.elim
end
end BB

namespace BB
open PySem PySem.Spec PyProof.Rows L2
section
variable {T : Tab} {K : PySem.W.Frag} {B : Bs} {W : WX}
/-- a fresh object is written -/
theorem pers_wr {G : Gh} {s0 s : S} {σ : St} {H0 H : Hp} {p : Addr} {o o' : HO} (f : Fresh B s0 H0 G s σ H p) (e : H p = some o) (mu : Mut (some o)) : Pers G H G (upd H p o') :=
  ⟨fun _ _ h => h, fun _ h => h, fun a h => upd_ne (fun z => f.nF (z ▸ h)), fun a xs h => by rw [upd_ne (fun z => by rw [z, e] at h; cases h; exact mu)]; exact h, fun a u v h => by rw [upd_ne (fun z => by rw [z, e] at h; cases h; exact mu)]; exact h, fun a xs h => by rw [upd_ne (fun z => by rw [z, e] at h; cases h; exact mu)]; exact h⟩
theorem Rel.wr {G : Gh} {s0 s : S} {σ : St} {H0 H : Hp} {p : Addr} {o o' : HO} (hR : Rel T K B G s σ H) (f : Fresh B s0 H0 G s σ H p) (e : H p = some o) (mu : Mut (some o)) : Rel T K B G s σ (upd H p o') := by
  have P : Pers G H G (upd H p o') := pers_wr f e mu
  refine ⟨hR.len, fun i x e1 => (hR.sl i x e1).mono P fun a u e2 ho e3 => ?_, hR.own1, hR.own2, ⟨hR.c.len, fun i x a e1 e2 => (hR.c.bx i x a e1 e2).mono P fun u q => ?_, hR.c.nd, hR.c.ioF, fun a h z => ?_⟩, ⟨hR.b.p.trans P, fun a u e1 n => ?_, fun a e1 z => ?_, hR.b.nio, hR.b.nF⟩⟩
  · rw [upd_ne]; exact e3
    rintro rfl
    exact f.now ⟨i, ⟨x, e1, ho⟩, e2⟩
  · rw [upd_ne]; exact q
    rintro rfl
    exact f.nio (List.mem_of_getElem? e2)
  · rw [upd_ne (by rintro rfl; exact f.nF h)] at z
    exact hR.c.Fd a h z
  · rw [upd_ne]; exact hR.b.keep a u e1 n
    rintro rfl
    rw [f.bn] at e1; cases e1
  · by_cases h : a = p
    · subst h; exact e1 f.bn
    · rw [upd_ne h] at z
      exact hR.b.dom a e1 z
theorem Stp.wr {G0 G : Gh} {s0 s : S} {σ : St} {H0 H : Hp} {p : Addr} {o o' : HO} (st : Stp σ G0 s0 H0 G s H) (f : Fresh B s0 H0 G s σ H p) (e : H p = some o) (mu : Mut (some o)) : Stp σ G0 s0 H0 G s (upd H p o') :=
  ⟨st.p.trans (pers_wr f e mu), fun a u h n no => by
    rw [upd_ne]
    · exact st.keep a u h n no
    · rintro rfl
      rcases f.st with z | z
      · rw [h] at z; cases z
      · exact no z, fun a h z => by
    by_cases q : a = p
    · subst q; rw [upd_same] at z; cases z
    · rw [upd_ne q] at z; exact st.dom a h z, st.nio, st.nF, st.ow⟩
theorem Fresh.wr {G : Gh} {s0 s : S} {σ : St} {H0 H : Hp} {p : Addr} {o' : HO} (f : Fresh B s0 H0 G s σ H p) : Fresh B s0 H0 G s σ (upd H p o') p := ⟨f.nF, f.nio, f.now, f.bn, f.st⟩
/-! pairs -/
inductive RRP (T : Tab) (K : PySem.W.Frag) (B : Bs) (s0 : S) (H0 : Hp) (G : Gh) (s : S) (σ : St) (H : Hp) : List (V × V) → List (R × R) → Prop
  | nil : RRP T K B s0 H0 G s σ H [] []
  | cons {v w : V} {r q : R} {vs : List (V × V)} {rs : List (R × R)} : RR T K B s0 H0 G s σ H v r → RR T K B s0 H0 G s σ H w q → RRP T K B s0 H0 G s σ H vs rs → RRP T K B s0 H0 G s σ H ((v, w) :: vs) ((r, q) :: rs)
def PRP (T : Tab) (K : PySem.W.Frag) (B : Bs) : PP (List (R × R)) (List (V × V)) := fun s0 H0 G s σ H v r => RRP T K B s0 H0 G s σ H v r
theorem RRP.back {σ : St} {G0 G1 G2 : Gh} {s0 s1 s2 : S} {H0 H1 H2 : Hp} (p : Stp σ G0 s0 H0 G1 s1 H1) : ∀ {vs : List (V × V)} {rs : List (R × R)}, RRP T K B s1 H1 G2 s2 σ H2 vs rs → RRP T K B s0 H0 G2 s2 σ H2 vs rs
  | _, _, .nil => .nil
  | _, _, .cons a b c => .cons (a.back p) (b.back p) (RRP.back p c)
def trs (T : Tab) (K : PySem.W.Frag) (B : Bs) (W : WX) (PG : Prog) (cl : Nat → List D → Sto → CR) : CP → List (TE × TE)
  | .nil => []
  | .cons k v r => (tE T K B W (ev PG cl k), tE T K B W (ev PG cl v)) :: trs T K B W PG cl r
theorem pairs_ok {PG : Prog} {cl : Nat → List D → Sto → CR} : ∀ (ps : CP) {G0 G : Gh} {s0 s : S} {σ : St} {H0 H : Hp} {Q : List (V × V) → Hp → Prop}, Rel T K B G s σ H → At T K B W (PRP T K B) (evP PG cl ps s) G s σ H Q → tPairs (trs T K B W PG cl ps) σ H Q
  | .nil, _, G, _, s, σ, _, H, Q, hR, q => by
    unfold evP at q
    exact q G H [] (.refl _ _ _ _) hR .nil
  | .cons k v r, _, G, _, s, σ, _, H, Q, hR, q => by
    unfold evP at q
    refine ⟨G, s, hR, at_bind q (.refl _ _ _ _) fun x s1 G1 H1 v1 st1 z1 R1 p1 q1 => ⟨G1, s1, R1, at_bind q1 z1 fun y s2 G2 H2 v2 st2 z2 R2 p2 q2 => ?_⟩⟩
    refine pairs_ok r (G0 := G2) (s0 := s2) (H0 := H2) R2 (at_bind q2 z2 fun rs s3 G3 H3 vs st3 z3 R3 p3 q3 => ?_)
    exact q3 G3 H3 _ z3 R3 (.cons (p1.mono (st2.trans st3)) ((p2.mono st3).back z1) (RRP.back z2 p3))
def frRP : List (V × V) → List (R × R) → Addr → Prop
  | v :: vs, r :: rs, a => frR v.1 r.1 a ∨ frR v.2 r.2 a ∨ frRP vs rs a
  | _, _, _ => False
theorem RRP.frA {σ : St} {G : Gh} {s s0 : S} {H H0 : Hp} {a : Addr} : ∀ {vs : List (V × V)} {rs : List (R × R)}, RRP T K B s0 H0 G s σ H vs rs → frRP vs rs a → (∃ o, H a = some o) ∧ Fresh B s0 H0 G s σ H a
  | _, _, .nil, z => z.elim
  | _, _, .cons q r t, z => z.elim (fun z => q.frA z) fun z => z.elim (fun z => r.frA z) fun z => RRP.frA t z
theorem dputs_ok {G : Gh} {H : Hp} {A : Addr → Prop} {σ : St} {s s0 : S} {H0 : Hp} : ∀ {vs : List (V × V)} {rs : List (R × R)} {ds acc l : List (D × D)} {kvs : List (Key × V)}, RRP T K B s0 H0 G s σ H vs rs → (∀ a, frRP vs rs a → A a) → keepPs rs = some ds → dputs acc ds = some l → RKs T K (addF G A) H kvs acc →
    ∃ more : List (Key × V), vs = more.map (fun kv => (kV kv.1, kv.2)) ∧ more.length = ds.length ∧ RKs T K (addF G A) H (mergeK kvs more) l
  | _, _, _, _, _, _, .nil, _, e, e2, h => by
    injection e with e; subst e; injection e2 with e2; subst e2
    exact ⟨[], rfl, rfl, h⟩
  | _, _, _, acc, _, kvs, .cons (v := v) (w := w) q r t, hA, e, e2, h => by
    unfold keepPs at e
    split at e
    · rename_i d1 d2 ds' h1 h2 h3
      injection e with e; subst e
      unfold dputs at e2
      split at e2
      · rename_i k hk
        have r1 := q.kept h1 fun a z => hA a (.inl z)
        have r2 := r.kept h2 fun a z => hA a (.inr (.inl z))
        obtain ⟨more, m1, m2, m3⟩ := dputs_ok t (fun a z => hA a (.inr (.inr z))) h3 e2 (h.put (dkey_of hk) r2)
        refine ⟨(k, w) :: more, ?_, by rw [List.length_cons, List.length_cons, m2], m3⟩
        rw [List.map_cons, ← m1, key_of (dkey_of hk) r1]
      · cases e2
    · cases e
end
section
variable {T : Tab} {B : Bs} {W : WX} {X : Cx}
theorem sE_dct {PG : Prog} {cl : Nat → List D → Sto → CR} {ps : CP} {p : Pos} (h : PPs X p ps.upK ps.upV (trs T X.K B W PG cl ps)) (hall : ps.upK.all (·.isSome) = true) (hl : ps.upK.length = ps.upV.length) (h0 : ps.upK ≠ []) (h15 : ps.upK.length ≤ 15) :
    PE X (.Dict ps.upK ps.upV p) (tE T X.K B W fun s => (evP PG cl ps s).bind fun l s1 => match keepPs l with
    | some q => if 0 < q.length ∧ q.length ≤ 15 then opt ((dputs [] q).map (.fd false)) s1 else .bad
    | none => .bad) := pe_imp (pe_disp h hall hl h0 h15) fun σ H Q ⟨G, s, hR, q⟩ => by
  intro a ha
  have R1 := hR.laid (o := .dK []) ha
  have S1 : Stp σ G s H G s (upd H a (.dK [])) := .laid hR ha
  have F1 := hR.fresh (o := .dK []) ha
  refine pairs_ok ps (G0 := G) (s0 := s) (H0 := H) R1 (at_bind q S1 fun l s1 G1 H1 vs st1 z1 R2 p1 q1 => ?_)
  split at q1
  · rename_i ds hk
    split at q1
    · rename_i hz
      obtain ⟨r, hr, q2⟩ := opt_at q1
      cases hd : dputs [] ds with
      | none => rw [hd] at hr; cases hr
      | some l' =>
        rw [hd] at hr; injection hr with hr; subst hr
        obtain ⟨F2, e2⟩ := F1.mono upd_same st1
        have p1' : RRP T X.K B s H G1 s1 σ H1 vs l := RRP.back S1 p1
        obtain ⟨S3, R3, P3⟩ := freeze (A := fun b => frRP vs l b) R2 st1 (fun b hb => p1.frA hb)
        obtain ⟨more, m1, m2, m3⟩ := dputs_ok (A := fun b => frRP vs l b) p1 (fun _ z => z) hk hd .nil
        refine ⟨e2, more, m1, by rw [m2]; exact hz.2, ?_⟩
        have nA : ¬ frRP vs l a := fun z => by
          have := (p1.frA z).2.st
          rcases this with z | z
          · rw [upd_same] at z; cases z
          · exact F1.now z
        have F3 : Fresh B s H (addF G1 fun b => frRP vs l b) s1 σ H1 a := ⟨fun z => z.elim F2.nF nA, F2.nio, F2.now, F2.bn, F2.st⟩
        have S4 : Stp σ G s H (addF G1 fun b => frRP vs l b) s1 H1 := S1.trans S3
        refine q2 _ _ _ (S4.wr F3 e2 trivial) (R3.wr F3 e2 trivial) (.fdK upd_same (m3.mono (pers_wr F3 e2 trivial)) F3.wr)
    · exact q1.elim
  · exact q1.elim
end
end BB

namespace BB
open PySem PySem.Spec PyProof.Rows L2
section
variable (T : Tab) (K : PySem.W.Frag)
/-- what a call hands back; H0: the heap ahead of it -/
inductive RRC (H0 : Hp) (G : Gh) (H : Hp) : V → R → Prop
  | va {v : V} {d : D} : RV T K G H v d → RRC H0 G H v (.va d)
  | fl {a : Addr} {vs : List V} {l : List D} : H a = some (.lst vs) → RVs T K G H vs l → ¬ G.F a → a ∉ G.io → H0 a = none → RRC H0 G H (.ref a) (.fl l)
  | fdK {a : Addr} {vs : List (Key × V)} {l : List (D × D)} : H a = some (.dK vs) → RKs T K G H vs l → ¬ G.F a → a ∉ G.io → H0 a = none → RRC H0 G H (.ref a) (.fd false l)
  | fdT {a : Addr} {vs : List (List Key × V)} {l : List (D × D)} : H a = some (.dT vs) → RTs T K G H vs l → ¬ G.F a → a ∉ G.io → H0 a = none → RRC H0 G H (.ref a) (.fd true l)
def CAt (o : CR) (G : Gh) (H : Hp) (Q : VK) (E : XK) : Prop := match o with
  | .ok r st' => ∀ G' H' v, Ext G H G' H' → RelC T K G' st' H' → RRC T K H G' H' v r → Q v H'
  | .ex c fs st' => ∀ G' H' cls d, Ext G H G' H' → RelC T K G' st' H' → ExR T K c fs cls d G' H' → E cls d H'
  | .bad => False
/-- a def's promise: what the run tells -/
def spF (PG : Prog) (k n : Nat) : Sp := fun vs H Q E => ∃ G ds st, RelC T K G st H ∧ RVs T K G H vs ds ∧ (∃ f, PG.fns[n]? = some f ∧ ds.length = f.ps) ∧ CAt T K (cal PG k n ds st) G H Q E
end
section
variable {T : Tab} {K : PySem.W.Frag} {B : Bs} {W : WX}
theorem Ext.trans {G G1 G2 : Gh} {H H1 H2 : Hp} (a : Ext G H G1 H1) (b : Ext G1 H1 G2 H2) : Ext G H G2 H2 where
  p := a.p.trans b.p
  keep := fun x o h n => b.keep x o (a.keep x o h n) fun q => by
    have := a.nio x q n
    rw [h] at this; cases this
  dom := fun x h => b.dom x (a.dom x h)
  nio := fun x h n => by
    by_cases q : x ∈ G1.io
    · exact a.nio x q n
    · have z := b.nio x h q
      cases e : H x with
      | none => rfl
      | some o => exact absurd z (a.dom x (by rw [e]; simp))
  nF := fun x h n => by
    by_cases q : G1.F x
    · exact a.nF x q n
    · have z := b.nF x h q
      cases e : H x with
      | none => rfl
      | some o => exact absurd z (a.dom x (by rw [e]; simp))
theorem Ext.notF {G G' : Gh} {H H' : Hp} {s : S} {σ : St} (x : Ext G H G' H') (hR : Rel T K B G s σ H) {a : Addr} (h : OwnA s σ a) : ¬ G'.F a ∧ a ∉ G'.io := by
  obtain ⟨u, e⟩ := hR.ownThere h
  have h1 := hR.own1 a h
  refine ⟨fun z => ?_, fun z => ?_⟩
  · have q := x.nF a z h1.1
    rw [e] at q; cases q
  · have q := x.nio a z h1.2.1
    rw [e] at q; cases q
theorem Rel.called {G G' : Gh} {H H' : Hp} {s : S} {σ : St} {st' : Sto} (hR : Rel T K B G s σ H) (x : Ext G H G' H') (c : RelC T K G' st' H') : Rel T K B G' ⟨s.env, st'⟩ σ H' := by
  refine ⟨hR.len, fun i y e => (hR.sl i y e).mono x.p fun a u e2 ho e3 => x.keep a u e3 (hR.own1 a ⟨i, ⟨y, e, ho⟩, e2⟩).2.1, fun a h => ?_, hR.own2, c, hR.b.trans x⟩
  have h : OwnA s σ a := h
  exact ⟨(x.notF hR h).1, (x.notF hR h).2, (hR.own1 a h).2.2⟩
theorem Stp.called {G G' : Gh} {H H' : Hp} {s : S} {σ : St} {st' : Sto} (x : Ext G H G' H') : Stp σ G s H G' ⟨s.env, st'⟩ H' :=
  ⟨x.p, fun a u h n _ => x.keep a u h n, x.dom, fun a h n => .inl (x.nio a h n), fun a h n => .inl (x.nF a h n), fun _ h => h⟩
theorem RRC.rr {G G' : Gh} {H H' : Hp} {s : S} {σ : St} {st' : Sto} {v : V} {r : R} (h : RRC T K H G' H' v r) (hR : Rel T K B G s σ H) : RR T K B s H G' ⟨s.env, st'⟩ σ H' v r := by
  have fr : ∀ {a : Addr}, ¬ G'.F a → a ∉ G'.io → H a = none → Fresh B s H G' ⟨s.env, st'⟩ σ H' a := fun {a} h1 h2 h3 => by
    refine ⟨h1, h2, fun z => ?_, ?_, .inl h3⟩
    · obtain ⟨u, e⟩ := hR.ownThere (show OwnA s σ a from z)
      rw [h3] at e; cases e
    · cases e : B.H a with
      | none => rfl
      | some u => exact absurd h3 (hR.b.dom a (by rw [e]; simp))
  cases h with
  | va q => exact .va q
  | fl e q a b c => exact .fl e q (fr a b c)
  | fdK e q a b c => exact .fdK e q (fr a b c)
  | fdT e q a b c => exact .fdT e q (fr a b c)
/-- a call's end in the frame -/
theorem call_at {PG : Prog} {k n : Nat} {ds : List D} {s0 s : S} {σ : St} {G0 G : Gh} {H0 H : Hp} {vs : List V} {Q : VK} (hR : Rel T K B G s σ H) (p0 : Stp σ G0 s0 H0 G s H) (rv : RVs T K G H vs ds)
    (h : At T K B W (PR T K B) (doCall (cal PG k) n ds s) G0 s0 σ H0 Q) : spF T K PG k n vs H Q (WE W σ) := by
  unfold doCall at h
  have hf : ∃ f, PG.fns[n]? = some f ∧ ds.length = f.ps := by
    cases k with
    | zero => exact h.elim
    | succ k =>
      cases e : PG.fns[n]? with
      | none =>
        have z : cal PG (k + 1) n ds s.st = .bad := by
          unfold cal
          rw [e]
          dsimp only
          split
          · cases rv with | cons r _ => cases r
          · rfl
        rw [z] at h
        exact h.elim
      | some f =>
        refine ⟨f, rfl, ?_⟩
        unfold cal at h
        rw [e] at h
        dsimp only at h
        split at h
        · rename_i x; split at x
          · assumption
          · cases x
        · rename_i x; split at x
          · assumption
          · cases x
        · exact h.elim
  refine ⟨G, ds, s.st, hR.c, rv, hf, ?_⟩
  clear hf
  revert h
  cases cal PG k n ds s.st with
  | ok r st' => exact fun h G' H' v x c r => h G' H' v (p0.trans (.called x)) (hR.called x c) ((RRC.rr r hR).back p0)
  | ex c fs st' => exact fun h G' H' cls d x c r => h G' H' cls d (p0.p.trans x.p) (hR.called x c) r
  | bad => exact fun h => h
end
/-- how a def takes its arguments -/
structure Bdn (K : PySem.W.Frag) (q : Option Str) (fd : FuncData) (ps : List Str) : Prop where
  b : L2.Binds K fd ps []
  d : ∀ x, q = some x → L2.Binds K fd ps [.none]
  k : ∀ x, q = some x → ∀ (s : Shared) (us : List Value) (w : Value), K.In s.heap → us.length + 1 = ps.length → BindsTo s fd ⟨us, [(x, w)]⟩ (ps.zip (us ++ [w]))
theorem Bdn.of {K : PySem.W.Frag} {fd : FuncData} {ps : List Str} (b : L2.Binds K fd ps []) : Bdn K none fd ps := ⟨b, fun _ h => (by cases h), fun _ h => (by cases h)⟩
/-- what calls of the text's defs lean on -/
structure Fns (X : Cx) (PG : Prog) (T : Tab) (k : Nat) : Prop where
  fn : ∀ n f, PG.fns[n]? = some f → ∃ fd ps, ps.length = f.ps ∧ FnOk X.prog X.w X.K X.mg X.base (L2.CX X.prog X.w) (2 * k + 1) (T.f n) fd ps (spF T X.K PG k n) ∧ Bdn X.K (PG.dfl n) fd ps ∧ PySem.W.keepIn X.K (.ref (T.f n)) = true
section
variable {T : Tab} {B : Bs} {W : WX} {X : Cx} {PG : Prog} {k : Nat}
theorem sE_call {n : Nat} {x : Str} {e : Expr} {es : List Expr} {cs : S → Oc (List R)} {px p : Pos} (F : Fns X PG T k) (hr : Room (2 * k + 1) X.A) (tk : L2.Takes X W) (hg : Gl X x) (hm : X.mg x = some (.ref (T.f n))) (hdb : (x == ("__debug__" : Str)) = false) (ha : PA X (e :: es) (tL T X.K B W cs))
    (he : starEach (e :: es) X.env = (false, eval e X.env) :: starEach es X.env) (hpl : (backTo p (starEach es X.env)).any (·.1) = false) (hin : ∃ f, PG.fns[n]? = some f) :
    PE X (.Call (.Name x px) (e :: es) [] p) (tE T X.K B W fun s => (cs s).bind fun rs s1 => match keepRs rs with
    | some ds => doCall (cal PG k) n ds s1
    | none => .bad) := by
  obtain ⟨f, hf⟩ := hin
  obtain ⟨fd, ps, hp, ok, bd, kp⟩ := F.fn n f hf
  refine pe_imp (pe_callS ok hr hg hm kp bd.b (fun σ => L2.passAt tk σ) ha hdb he hpl) fun σ H Q ⟨G, s, hR, q⟩ => ?_
  refine ⟨G, s, hR, at_bind q (.refl _ _ _ _) fun rs s1 G1 H1 vs st1 z1 R1 p1 q1 => ?_⟩
  split at q1
  · rename_i ds hk
    obtain ⟨G2, st2, R2, rv⟩ := keepN R1 z1 p1 hk
    exact call_at R2 st2 rv q1
  · exact q1.elim
/-- a call of a def that a local name holds -/
theorem sE_calv {i : Nat} {x : Str} {e : Expr} {es : List Expr} {cs : S → Oc (List R)} {px p : Pos} (F : Fns X PG T k) (hr : Room (2 * k + 1) X.A) (tk : L2.Takes X W) (hv : PE X (.Name x px) (tVar i)) (ha : PA X (e :: es) (tL T X.K B W cs))
    (he : starEach (e :: es) X.env = (false, eval e X.env) :: starEach es X.env) (hpl : (backTo p (starEach es X.env)).any (·.1) = false) :
    PE X (.Call (.Name x px) (e :: es) [] p) (tE T X.K B W fun s => match s.env[i]? with
    | some (.va (.fn n)) => if (PG.fns[n]?).isSome = true then (cs s).bind fun rs s1 => match keepRs rs with
      | some ds => doCall (cal PG k) n ds s1
      | none => .bad
      else .bad
    | _ => .bad) := by
  refine ⟨fun pins s σ H Q I ⟨G, S, hR, q⟩ => ?_⟩
  revert q
  dsimp only
  split
  · rename_i n en
    intro q
    split at q
    · rename_i hin
      obtain ⟨f, hf⟩ := Option.isSome_iff_exists.mp hin
      obtain ⟨fd, ps, hp, ok, bd, kp⟩ := F.fn n f hf
      have hs : σ[i]? = some (some (.ref (T.f n))) := by
        have z := hR.sl _ _ en
        cases z' : σ[i]? with
        | none => rw [z'] at z; cases z
        | some o => rw [z'] at z; cases z with
          | va r => cases r; rfl
      have callee := hv.run pins s σ H (fun v H1 => v = .ref (T.f n) ∧ H1 = H) I ⟨_, hs, rfl, rfl⟩
      refine wpAny_Call_Name_kw (thn callee fun u s1 hu => ?_)
      obtain ⟨v, H1, I1, r1, ev, eH⟩ := hu
      subst ev; subst eH
      cases r1
      have args := ha.run p pins s1 σ H1 (fun vs H2 => spF T X.K PG k n vs H2 Q (WE W σ)) I1 ⟨G, S, hR, at_bind q (.refl _ _ _ _) fun rs s1 G1 H1 vs st1 z1 R1 p1 q1 => by
        split at q1
        · rename_i ds hk
          obtain ⟨G2, st2, R2, rv⟩ := keepN R1 z1 p1 hk
          exact call_at R2 st2 rv q1
        · exact q1.elim⟩
      refine PySem.W.callWith_K (h₀ := X.base) I.ok.mod.kin kp (thn args fun us s2 hv2 => ?_) he hpl
      obtain ⟨vs, H2, I2, r, q2⟩ := hv2
      exact ⟨I2.kIn, run_fnS ok hr bd.b (L2.passAt tk σ) I2 r q2⟩
    · exact q.elim
  · exact fun q => q.elim
/-! instances -/
theorem fget_of {G : Gh} {H : Hp} {K : PySem.W.Frag} {f : Str} : ∀ {fv : List (Str × V)} {fs : List (Str × D)}, RFs T K G H fv fs → (fv.lookup f = none ∧ fget f fs = none) ∨ ∃ v d, fv.lookup f = some v ∧ fget f fs = some d ∧ RV T K G H v d
  | _, _, .nil => .inl ⟨rfl, rfl⟩
  | _, _, .cons (k := k) (v := v) (d := d) (vs := vs) (ds := ds) r t => by
    by_cases h : f = k
    · have hb : (f == k) = true := beq_iff_eq.mpr h
      refine .inr ⟨v, d, by rw [List.lookup, hb], by unfold fget; rw [if_pos h], r⟩
    · have hb : (f == k) = false := beq_eq_false_iff_ne.mpr h
      have e1 : List.lookup f ((k, v) :: vs) = vs.lookup f := by rw [List.lookup, hb]
      have e2 : fget f ((k, d) :: ds) = fget f ds := by rw [fget, if_neg h]
      rw [e1, e2]
      exact fget_of t
theorem fput_of {G : Gh} {H : Hp} {K : PySem.W.Frag} {f : Str} {v : V} {d : D} (r : RV T K G H v d) : ∀ {fv : List (Str × V)} {fs : List (Str × D)}, RFs T K G H fv fs → RFs T K G H (putF f v fv) (fput f d fs)
  | _, _, .nil => .cons r .nil
  | _, _, .cons (k := k) (v := v') (d := d') (vs := vs) (ds := ds) r' t => by
    unfold putF fput
    by_cases h : k = f
    · rw [if_pos h, if_pos h]; exact .cons r t
    · rw [if_neg h, if_neg h]; exact .cons r' (fput_of r t)
theorem RFs.length {G : Gh} {H : Hp} {K : PySem.W.Frag} : ∀ {fv : List (Str × V)} {fs : List (Str × D)}, RFs T K G H fv fs → fv.length = fs.length
  | _, _, .nil => rfl
  | _, _, .cons r t => by rw [List.length_cons, List.length_cons, RFs.length t]
/-- the box that a value is -/
theorem box_at {G : Gh} {s0 s : S} {σ : St} {H0 H : Hp} {v : V} {x : R} {i : Nat} {b : Bx} (hR : Rel T X.K B G s σ H) (r : RR T X.K B s0 H0 G s σ H v x) (e : bxOf x s = some (i, b)) : ∃ a, v = .ref a ∧ G.io[i]? = some a ∧ s.st[i]? = some b ∧ BxR T X.K G H a b ∧ x = .va (.ref i) := by
  unfold bxOf at e
  split at e
  · rename_i j
    cases h : s.st[j]? with
    | none => rw [h] at e; cases e
    | some b' =>
      rw [h] at e
      injection e with e; injection e with e1 e2; subst e1; subst e2
      cases r with | va q => cases q with | ref q => exact ⟨_, rfl, q, h, hR.c.bx _ _ _ h q, rfl⟩
  · cases e
theorem sE_fld {o : Expr} {f : Str} {co : S → Oc R} {p : Pos} (hf : ∀ c, PG.fldOk c f = true → Cls X.K (T.o c) ∧ NoAttr X.K (T.o c) f) (ho : PE X o (tE T X.K B W co)) (hb : attributeBase o f X.env (eval o X.env) = eval o X.env) :
    PE X (.Attribute o f p) (tE T X.K B W fun s => (co s).bind (fldR PG f)) := by
  refine pe_imp (pe_fld ho hb) fun σ H Q ⟨G, s, hR, q⟩ => ?_
  refine ⟨G, s, hR, at_bind q (.refl _ _ _ _) fun x s1 G1 H1 v1 st1 z1 R1 p1 q1 => ?_⟩
  have q1 : At T X.K B W (PR T X.K B) (fld1 PG f (bxOf x s1) s1) G s σ H Q := q1
  unfold fld1 at q1
  split at q1
  · rename_i i c fs e
    split at q1
    · rename_i hk
      obtain ⟨r, hr, q2⟩ := opt_at q1
      obtain ⟨a, rfl, hi, hs, hb, _⟩ := box_at R1 p1 e
      cases hb with
      | ins e1 rf =>
        rcases fget_of (f := f) rf with ⟨g1, g2⟩ | ⟨v, d, g1, g2, g3⟩
        · rw [g2] at hr; cases hr
        · rw [g2] at hr; injection hr with hr; subst hr
          exact ⟨a, _, _, _, v, rfl, e1, (hf c hk).1, (hf c hk).2, g1, at_new q2 z1 R1 (.same g3)⟩
    · exact q1.elim
  · exact q1.elim
theorem meth_at {o : Expr} {m : Str} {co : S → Oc R} {cs : S → Oc (List R)} {σ : St} {H : Hp} {Q : VK} (q : tE T X.K B W (fun s => (co s).bind fun x s1 => match mthOf PG m (bxOf x s1) with
    | some n => (cs s1).bind (methK (cal PG k) n x)
    | none => .bad) σ H Q) : tE T X.K B W co σ H fun v H1 => ∃ a dx fs n c, v = .ref a ∧ H1 a = some (.ins (T.o c) dx fs) ∧ fs.lookup m = none ∧ PG.mth c m = some n ∧
      (tL T X.K B W cs σ H1 fun vs H2 => spF T X.K PG k n (.ref a :: vs) H2 Q (WE W σ)) ∧ ∀ s1, (∃ G1, Rel T X.K B G1 s1 σ H1 ∧ cs s1 = .ok [] s1) → True := by
  obtain ⟨G, S0, hR, q⟩ := q
  refine ⟨G, S0, hR, at_bind q (.refl _ _ _ _) fun x s1 G1 H1 v1 st1 z1 R1 p1 q1 => ?_⟩
  cases hb : mthOf PG m (bxOf x s1) with
  | none => rw [hb] at q1; exact q1.elim
  | some n =>
    rw [hb] at q1
    unfold mthOf at hb
    split at hb
    · rename_i i c fs e
      split at hb
      · rename_i hg
        obtain ⟨a, rfl, hi, hs, hbx, rfl⟩ := box_at R1 p1 e
        cases hbx with
        | @ins _ dx fv _ e1 rf =>
          have hl : fv.lookup m = none := by
            rcases fget_of (f := m) rf with ⟨g1, g2⟩ | ⟨v, d, g1, g2, g3⟩
            · exact g1
            · rw [hg] at g2; cases g2
          refine ⟨a, dx, fv, n, c, rfl, e1, hl, hb, ⟨G1, s1, R1, at_bind q1 z1 fun rs s2 G2 H2 vs st2 z2 R2 p2 q2 => ?_⟩, fun _ _ => trivial⟩
          have q2 : At T X.K B W (PR T X.K B) (methK (cal PG k) n (.va (.ref i)) rs s2) G S0 σ H Q := q2
          unfold methK at q2
          split at q2
          · rename_i d ds ed hk
            cases ed
            obtain ⟨G3, st3, R3, rv⟩ := keepN R2 st2 p2 hk
            exact call_at (ds := .ref i :: ds) R3 (z1.trans st3) (.cons (.ref (st3.p.io _ _ hi)) rv) q2
          · exact q2.elim
      · cases hb
    · cases hb
theorem sE_meth {o : Expr} {m : Str} {e : Expr} {es : List Expr} {co : S → Oc R} {cs : S → Oc (List R)} {pa p : Pos} {pl : Sem Bool} (F : Fns X PG T k) (hr : Room (2 * k + 1) X.A) (tk : L2.Takes X W) (hm : ∀ c n, PG.mth c m = some n → Cls X.K (T.o c) ∧ Meth X.K (T.o c) m (T.f n) ∧ ∃ f, PG.fns[n]? = some f)
    (ho : PE X o (tE T X.K B W co)) (ha : PA X (e :: es) (tL T X.K B W cs)) (hst : starEach (e :: es) X.env = (false, eval e X.env) :: starEach es X.env) (hpl : (backTo p (starEach es X.env)).any (·.1) = false)
    (ht : eval (.Call (.Attribute o m pa) (e :: es) [] p) X.env = (do
      let ov ← eval o X.env
      standAt pa.atName
      let (f, first) ← holding [ov] (getMethod ov m pl)
      callWith p f first (backTo p (starEach (e :: es) X.env)) (backToKw p (keywordEach [] X.env)))) :
    PE X (.Call (.Attribute o m pa) (e :: es) [] p) (tE T X.K B W fun s => (co s).bind fun x s1 => match mthOf PG m (bxOf x s1) with
    | some n => (cs s1).bind (methK (cal PG k) n x)
    | none => .bad) := by
  refine ⟨fun pins s σ H Q I q => ?_⟩
  refine PySem.W.methodCall_KW (pl := pl) (thn (ho.run pins s σ H _ I (meth_at (o := o) q)) fun u s1 ⟨x, H1, I1, rx, a, dx, fs, n, c, ex, ea, l, em, q, _⟩ => ?_) ht
  subst ex
  obtain rfl : u = Value.ref a := rx
  obtain ⟨cl, me, f, hf⟩ := hm c n em
  obtain ⟨fd, ps, hp, ok, bd, kp⟩ := F.fn n f hf
  refine getmeth_ok I1 ea cl me l ?_
  refine PySem.W.callWith_K (first := [.ref a]) (h₀ := X.base) I1.ok.mod.kin me.kp (thn (ha.run p pins s1 σ H1 _ I1 q) fun us s2 ⟨vs, H2, I2, r2, q2⟩ => ⟨I2.kIn, ?_⟩) hst hpl
  exact run_fnS (us := .ref a :: us) (vs := .ref a :: vs) ok hr bd.b (L2.passAt tk σ) I2 (.cons rfl r2) q2
theorem sE_meth0 {o : Expr} {m : Str} {co : S → Oc R} {pa p : Pos} {pl : Sem Bool} (F : Fns X PG T k) (hr : Room (2 * k + 1) X.A) (tk : L2.Takes X W) (hm : ∀ c n, PG.mth c m = some n → Cls X.K (T.o c) ∧ Meth X.K (T.o c) m (T.f n) ∧ ∃ f, PG.fns[n]? = some f)
    (ho : PE X o (tE T X.K B W co))
    (ht : eval (.Call (.Attribute o m pa) [] [] p) X.env = (do
      let ov ← eval o X.env
      standAt pa.atName
      let (f, first) ← holding [ov] (getMethod ov m pl)
      callWith p f first (backTo p (starEach [] X.env)) (backToKw p (keywordEach [] X.env)))) :
    PE X (.Call (.Attribute o m pa) [] [] p) (tE T X.K B W fun s => (co s).bind fun x s1 => match mthOf PG m (bxOf x s1) with
    | some n => (Oc.ok [] s1).bind (methK (cal PG k) n x)
    | none => .bad) := by
  refine ⟨fun pins s σ H Q I q => ?_⟩
  refine PySem.W.methodCall_KW (pl := pl) (thn (ho.run pins s σ H _ I (meth_at (o := o) (cs := fun s => .ok [] s) q)) fun u s1 ⟨x, H1, I1, rx, a, dx, fs, n, c, ex, ea, l, em, ⟨G1, S1, R1, q⟩, _⟩ => ?_) ht
  subst ex
  obtain rfl : u = Value.ref a := rx
  obtain ⟨cl, me, f, hf⟩ := hm c n em
  obtain ⟨fd, ps, hp, ok, bd, kp⟩ := F.fn n f hf
  refine getmeth_ok I1 ea cl me l ?_
  exact PySem.W.callWith_K0 (first := [.ref a]) I1.kIn me.kp (run_fnS (us := [.ref a]) (vs := [.ref a]) ok hr bd.b (L2.passAt tk σ) I1 (.cons rfl .nil) (q G1 H1 [] (.refl _ _ _ _) R1 .nil))
/-- a method's box -/
theorem mthOf_at {m : Str} {G : Gh} {s0 s1 : S} {σ : St} {H0 H1 : Hp} {v : V} {x : R} {n : Nat} (R1 : Rel T X.K B G s1 σ H1) (p1 : RR T X.K B s0 H0 G s1 σ H1 v x) (hb : mthOf PG m (bxOf x s1) = some n) :
    ∃ i a dx fv c, x = .va (.ref i) ∧ v = .ref a ∧ G.io[i]? = some a ∧ H1 a = some (.ins (T.o c) dx fv) ∧ fv.lookup m = none ∧ PG.mth c m = some n := by
  unfold mthOf at hb
  split at hb
  · rename_i i c fs e
    split at hb
    · rename_i hg
      obtain ⟨a, rfl, hi, hs, hbx, rfl⟩ := box_at R1 p1 e
      cases hbx with
      | @ins _ dx fv _ e1 rf =>
        have hl : fv.lookup m = none := by
          rcases fget_of (f := m) rf with ⟨g1, g2⟩ | ⟨v, d, g1, g2, g3⟩
          · exact g1
          · rw [hg] at g2; cases g2
        exact ⟨i, a, dx, fv, c, rfl, rfl, hi, e1, hl, hb⟩
    · cases hb
  · cases hb
theorem methK_at {i n : Nat} {a : Addr} {rs : List R} {vs : List V} {G0 G1 G : Gh} {s0 s : S} {σ : St} {H0 H1 H : Hp} {Q : VK} (hi : G1.io[i]? = some a) (pp : Pers G1 H1 G H) (hR : Rel T X.K B G s σ H) (z : Stp σ G0 s0 H0 G s H) (rr : RRs T X.K B s0 H0 G s σ H vs rs)
    (q : At T X.K B W (PR T X.K B) (methK (cal PG k) n (.va (.ref i)) rs s) G0 s0 σ H0 Q) : spF T X.K PG k n (.ref a :: vs) H Q (WE W σ) := by
  unfold methK at q
  split at q
  · rename_i d ds ed hk
    cases ed
    obtain ⟨G3, st3, R3, rv, P3⟩ := keepNp hR z rr hk
    exact call_at (ds := .ref i :: ds) R3 st3 (.cons (.ref (P3.io _ _ (pp.io _ _ hi))) rv) q
  · exact q.elim
theorem mtd_at {o : Expr} {m : Str} {co ca : S → Oc R} {σ : St} {H : Hp} {Q : VK} (q : tE T X.K B W (fun s => (co s).bind fun x s1 => match mthOf PG m (bxOf x s1) with
    | some n => if (PG.dfl n).isSome = true then (ca s1).bind fun r1 s2 => methK (cal PG k) n x [r1, .va .non] s2 else .bad
    | none => .bad) σ H Q) : tE T X.K B W co σ H fun v H1 => ∃ a dx fs n c, v = .ref a ∧ H1 a = some (.ins (T.o c) dx fs) ∧ fs.lookup m = none ∧ PG.mth c m = some n ∧ (∃ x, PG.dfl n = some x) ∧
      tE T X.K B W ca σ H1 fun v1 H2 => spF T X.K PG k n [.ref a, v1, .non] H2 Q (WE W σ) := by
  obtain ⟨G, S0, hR, q⟩ := q
  refine ⟨G, S0, hR, at_bind q (.refl _ _ _ _) fun x s1 G1 H1 v1 st1 z1 R1 p1 q1 => ?_⟩
  cases hb : mthOf PG m (bxOf x s1) with
  | none => rw [hb] at q1; exact q1.elim
  | some n =>
    rw [hb] at q1
    obtain ⟨i, a, dx, fv, c, rfl, rfl, hi, e1, hl, hm⟩ := mthOf_at R1 p1 hb
    dsimp only at q1
    split at q1
    · rename_i hd
      refine ⟨a, dx, fv, n, c, rfl, e1, hl, hm, Option.isSome_iff_exists.mp hd, G1, s1, R1, at_bind q1 z1 fun r1 s2 G2 H2 w st2 z2 R2 p2 q2 => ?_⟩
      exact methK_at hi st2.p R2 z2 (.cons (p2.back z1) (.cons (.va .non) .nil)) q2
    · exact q1.elim
theorem mtk_at {o : Expr} {m kw : Str} {co ca cb : S → Oc R} {σ : St} {H : Hp} {Q : VK} (q : tE T X.K B W (fun s => (co s).bind fun x s1 => match mthOf PG m (bxOf x s1) with
    | some n => if PG.dfl n = some kw then (ca s1).bind fun r1 s2 => (cb s2).bind fun r2 s3 => methK (cal PG k) n x [r1, r2] s3 else .bad
    | none => .bad) σ H Q) : tE T X.K B W co σ H fun v H1 => ∃ a dx fs n c, v = .ref a ∧ H1 a = some (.ins (T.o c) dx fs) ∧ fs.lookup m = none ∧ PG.mth c m = some n ∧ PG.dfl n = some kw ∧
      tE T X.K B W ca σ H1 fun v1 H2 => tE T X.K B W cb σ H2 fun v2 H3 => spF T X.K PG k n [.ref a, v1, v2] H3 Q (WE W σ) := by
  obtain ⟨G, S0, hR, q⟩ := q
  refine ⟨G, S0, hR, at_bind q (.refl _ _ _ _) fun x s1 G1 H1 v1 st1 z1 R1 p1 q1 => ?_⟩
  cases hb : mthOf PG m (bxOf x s1) with
  | none => rw [hb] at q1; exact q1.elim
  | some n =>
    rw [hb] at q1
    obtain ⟨i, a, dx, fv, c, rfl, rfl, hi, e1, hl, hm⟩ := mthOf_at R1 p1 hb
    dsimp only at q1
    split at q1
    · rename_i hd
      refine ⟨a, dx, fv, n, c, rfl, e1, hl, hm, hd, G1, s1, R1, at_bind q1 z1 fun r1 s2 G2 H2 w st2 z2 R2 p2 q2 => ⟨G2, s2, R2, at_bind q2 z2 fun r2 s3 G3 H3 w2 st3 z3 R3 p3 q3 => ?_⟩⟩
      exact methK_at hi (st2.p.trans st3.p) R3 z3 (.cons ((RR.mono p2 st3).back z1) (.cons (p3.back z2) .nil)) q3
    · exact q1.elim
theorem run_fnK {CX : CXT} {f : Addr} {k : Nat} {fd : FuncData} {ps : List Str} {sp : Sp} {E : St → XK} {x : Str} {pins : List (Addr × Obj)} {σ : St} {H : Hp} {s : Shared} {Q : VK} {us : List Value} {w : Value} {vs : List V} {z : V} (F : FnOk X.prog X.w X.K X.mg X.base CX k f fd ps sp) (hr : Room k X.A)
    (hb : ∀ (s : Shared) (us : List Value) (w : Value), X.K.In s.heap → us.length + 1 = ps.length → BindsTo s fd ⟨us, [(x, w)]⟩ (ps.zip (us ++ [w]))) (hx : PassesAt CX X σ (E σ))
    (I : Inv X pins σ H s) (r : Vals vs us) (rz : RelV z w) (h : sp (vs ++ [z]) H Q (E σ)) : wpAny (model X.prog X.w) X.A (call (.ref f) us [(x, w)]) (EP X pins σ Q) X.xe s := by
  have r2 : Vals (vs ++ [z]) (us ++ [w]) := r.append (.cons rz .nil)
  have hl : us.length + 1 = ps.length := by
    have e := F.len _ _ _ _ h
    have e2 := r2.length
    rw [e] at e2
    simpa using e2.symm
  refine wpAny_call (codeAny_mono (F.run X.A X.stack s H ⟨us, [(x, w)]⟩ (us ++ [w]) (vs ++ [z]) Q (E σ) hr I.env0 (hb s us w I.kIn hl) r2 h) fun r s' hq => ?_)
  cases r with
  | error e => exact hx pins H s e s' I hq
  | ok fl =>
    cases fl with
    | ret u => exact I.after hq
    | next => exact False.elim hq
    | brk => exact False.elim hq
    | cont => exact False.elim hq
theorem sE_mtd {o : Expr} {m : Str} {e : Expr} {co ca : S → Oc R} {pa p : Pos} {pl : Sem Bool} (F : Fns X PG T k) (hr : Room (2 * k + 1) X.A) (tk : L2.Takes X W) (hm : ∀ c n, PG.mth c m = some n → Cls X.K (T.o c) ∧ Meth X.K (T.o c) m (T.f n) ∧ ∃ f, PG.fns[n]? = some f)
    (ho : PE X o (tE T X.K B W co)) (ha : PE X e (tE T X.K B W ca)) (hst : starEach [e] X.env = (false, eval e X.env) :: starEach [] X.env)
    (ht : eval (.Call (.Attribute o m pa) [e] [] p) X.env = (do
      let ov ← eval o X.env
      standAt pa.atName
      let (f, first) ← holding [ov] (getMethod ov m pl)
      callWith p f first (backTo p (starEach [e] X.env)) (backToKw p (keywordEach [] X.env)))) :
    PE X (.Call (.Attribute o m pa) [e] [] p) (tE T X.K B W fun s => (co s).bind fun x s1 => match mthOf PG m (bxOf x s1) with
    | some n => if (PG.dfl n).isSome = true then (ca s1).bind fun r1 s2 => methK (cal PG k) n x [r1, .va .non] s2 else .bad
    | none => .bad) := by
  refine ⟨fun pins s σ H Q I q => ?_⟩
  refine PySem.W.methodCall_KW (pl := pl) (thn (ho.run pins s σ H _ I (mtd_at (o := o) q)) fun u s1 ⟨x, H1, I1, rx, a, dx, fs, n, c, ex, ea, l, em, ⟨y, ed⟩, q⟩ => ?_) ht
  subst ex
  obtain rfl : u = Value.ref a := rx
  obtain ⟨cl, me, f, hf⟩ := hm c n em
  obtain ⟨fd, ps, hp, ok, bd, kp⟩ := F.fn n f hf
  refine getmeth_ok I1 ea cl me l ?_
  refine PySem.W.callWith_K (first := [.ref a]) (h₀ := X.base) I1.ok.mod.kin me.kp (thn ((pa_cons ha pa_nil hst).run p pins s1 σ H1 (fun vs H2 => ∃ v1, vs = [v1] ∧ spF T X.K PG k n [.ref a, v1, .non] H2 Q (WE W σ)) I1 ?_) fun us s2 ⟨vs, H2, I2, r2, v1, e2, q2⟩ => ⟨I2.kIn, ?_⟩) hst rfl
  · have q0 : tE T X.K B W ca σ H1 fun v1 H2 => ∃ v2, [v1] = [v2] ∧ spF T X.K PG k n [.ref a, v2, .non] H2 Q (WE W σ) := by
      obtain ⟨G, S0, hR, q⟩ := q
      exact ⟨G, S0, hR, at_imp q fun v1 H2 q => ⟨v1, rfl, q⟩⟩
    exact q0
  · subst e2
    exact L2.run_fnSD (us := .ref a :: us) (vs := [.ref a, v1]) (dvs := [.non]) ok hr (bd.d _ ed) (.cons rfl .nil) (L2.passAt tk σ) I2 (.cons rfl r2) q2
theorem sE_mtk {o : Expr} {m kw : Str} {e e2 : Expr} {co ca cb : S → Oc R} {pa pk p : Pos} {pl : Sem Bool} (F : Fns X PG T k) (hr : Room (2 * k + 1) X.A) (tk : L2.Takes X W) (hm : ∀ c n, PG.mth c m = some n → Cls X.K (T.o c) ∧ Meth X.K (T.o c) m (T.f n) ∧ ∃ f, PG.fns[n]? = some f)
    (ho : PE X o (tE T X.K B W co)) (ha : PE X e (tE T X.K B W ca)) (hb : PE X e2 (tE T X.K B W cb)) (hst : starEach [e] X.env = (false, eval e X.env) :: starEach [] X.env)
    (ht : eval (.Call (.Attribute o m pa) [e] [⟨some kw, e2, pk⟩] p) X.env = (do
      let ov ← eval o X.env
      standAt pa.atName
      let (f, first) ← holding [ov] (getMethod ov m pl)
      callWith p f first (backTo p (starEach [e] X.env)) (backToKw p (keywordEach [⟨some kw, e2, pk⟩] X.env)))) :
    PE X (.Call (.Attribute o m pa) [e] [⟨some kw, e2, pk⟩] p) (tE T X.K B W fun s => (co s).bind fun x s1 => match mthOf PG m (bxOf x s1) with
    | some n => if PG.dfl n = some kw then (ca s1).bind fun r1 s2 => (cb s2).bind fun r2 s3 => methK (cal PG k) n x [r1, r2] s3 else .bad
    | none => .bad) := by
  refine ⟨fun pins s σ H Q I q => ?_⟩
  refine PySem.W.methodCall_KW (pl := pl) (thn (ho.run pins s σ H _ I (mtk_at (o := o) q)) fun u s1 ⟨x, H1, I1, rx, a, dx, fs, n, c, ex, ea, l, em, ed, q⟩ => ?_) ht
  subst ex
  obtain rfl : u = Value.ref a := rx
  obtain ⟨cl, me, f, hf⟩ := hm c n em
  obtain ⟨fd, ps, hp, ok, bd, kp⟩ := F.fn n f hf
  refine getmeth_ok I1 ea cl me l ?_
  refine PySem.W.callWith_KW (first := [.ref a]) (h₀ := X.base) I1.ok.mod.kin me.kp rfl (thn ((pa_cons ha pa_nil hst).run p pins s1 σ H1 (fun vs H2 => ∃ v1, vs = [v1] ∧ tE T X.K B W cb σ H2 fun v2 H3 => spF T X.K PG k n [.ref a, v1, v2] H3 Q (WE W σ)) I1 ?_) fun us s2 ⟨vs, H2, I2, r2, v1, e2, q2⟩ =>
    thn ((pk_cons (nm := some kw) (kpos := pk) hb pk_nil).run p pins s2 σ H2 (fun vs H2 => ∃ v2, vs = [v2] ∧ spF T X.K PG k n [.ref a, v1, v2] H2 Q (WE W σ)) I2 ?_) fun ws s3 ⟨zs, H3, I3, r3, v2, e3, q3⟩ => ⟨I3.kIn, ?_⟩) (by rw [hst]; rfl) hst
  · have q0 : tE T X.K B W ca σ H1 fun v1 H2 => ∃ v2, [v1] = [v2] ∧ tE T X.K B W cb σ H2 fun v3 H3 => spF T X.K PG k n [.ref a, v2, v3] H3 Q (WE W σ) := by
      obtain ⟨G, S0, hR, q⟩ := q
      exact ⟨G, S0, hR, at_imp q fun v1 H2 q => ⟨v1, rfl, q⟩⟩
    exact q0
  · have q0 : tE T X.K B W cb σ H2 fun v3 H3 => ∃ v2, [v3] = [v2] ∧ spF T X.K PG k n [.ref a, v1, v2] H3 Q (WE W σ) := by
      obtain ⟨G, S0, hR, q⟩ := q2
      exact ⟨G, S0, hR, at_imp q fun v1 H2 q => ⟨v1, rfl, q⟩⟩
    exact q0
  · subst e2; subst e3
    cases r3 with | cons r3 r4 =>
    cases r4
    exact run_fnK (us := .ref a :: us) (vs := [.ref a, v1]) ok hr (bd.k _ ed) (L2.passAt tk σ) I3 (.cons rfl r2) r3 q3
/-- a box more -/
theorem RelC.more {K : PySem.W.Frag} {G : Gh} {st : Sto} {H H' : Hp} {a : Addr} {b : Bx} (hR : RelC T K G st H) (P : Pers G H ⟨G.io ++ [a], G.F⟩ H') (k : ∀ (i : Nat) (o : Bx) (c : Addr) (u : HO), st[i]? = some o → G.io[i]? = some c → H c = some u → H' c = some u) (n1 : a ∉ G.io) (n2 : ¬ G.F a) (dom : ∀ c, H c ≠ none → H' c ≠ none) (hb : BxR T K ⟨G.io ++ [a], G.F⟩ H' a b) :
    RelC T K ⟨G.io ++ [a], G.F⟩ (st ++ [b]) H' := by
  refine ⟨by rw [List.length_append, List.length_append, hR.len]; rfl, fun i o c e1 e2 => ?_, ?_, fun c hc z => ?_, fun c hc => dom c (hR.Fd c hc)⟩
  · by_cases hi : i < st.length
    · rw [List.getElem?_append_left hi] at e1
      have e2 : (G.io ++ [a])[i]? = some c := e2
      rw [List.getElem?_append_left (by rw [← hR.len]; exact hi)] at e2
      exact (hR.bx i o c e1 e2).mono P fun u q => k i o c u e1 e2 q
    · rw [List.getElem?_append_right (by omega)] at e1
      have e2 : (G.io ++ [a])[i]? = some c := e2
      rw [List.getElem?_append_right (by rw [← hR.len]; omega)] at e2
      rw [← hR.len] at e2
      have hi0 : i - st.length = 0 := by
        have := (List.getElem?_eq_some_iff.mp e1).1
        simpa using this
      rw [hi0] at e1 e2
      cases e1; cases e2
      exact hb
  · refine List.nodup_append.mpr ⟨hR.nd, by simp, fun x hx y hy => ?_⟩
    have : y = a := by simpa using hy
    subst this
    intro e
    exact n1 (e ▸ hx)
  · rcases List.mem_append.mp hc with hc | hc
    · exact hR.ioF c hc z
    · have : c = a := by simpa using hc
      subst this
      exact n2 z
theorem pers_more {G : Gh} {H : Hp} (a : Addr) : Pers G H ⟨G.io ++ [a], G.F⟩ H :=
  ⟨fun i c h => by show (G.io ++ [a])[i]? = _; rw [List.getElem?_append_left (List.getElem?_eq_some_iff.mp h).1]; exact h, fun _ h => h, fun _ _ => rfl, fun _ _ h => h, fun _ _ _ h => h, fun _ _ h => h⟩
theorem sE_bx {e : Expr} {c : S → Oc R} (he : PE X e (tE T X.K B W c)) : PE X e (tE T X.K B W fun s => (c s).bind bxR) := by
  refine pe_imp he fun σ H Q ⟨G, s, hR, q⟩ => ?_
  refine ⟨G, s, hR, at_bind q (.refl _ _ _ _) fun x s1 G1 H1 v1 st1 z1 R1 p1 q1 => ?_⟩
  have fin : ∀ (a : Addr) (b : Bx), Fresh B s H G1 s1 σ H1 a → BxR T X.K G1 H1 a b → At T X.K B W (PR T X.K B) (.ok (.va (.ref s1.st.length)) ⟨s1.env, s1.st ++ [b]⟩) G s σ H Q → Q (.ref a) H1 := fun a b f hb q => by
    have P := pers_more (G := G1) (H := H1) a
    refine q ⟨G1.io ++ [a], G1.F⟩ H1 _ ⟨z1.p.trans P, z1.keep, z1.dom, fun c hc n => ?_, z1.nF, z1.ow⟩ ?_ (.va (.ref ?_))
    · rcases List.mem_append.mp hc with hc | hc
      · exact z1.nio c hc n
      · have : c = a := by simpa using hc
        subst this
        exact f.st
    · refine ⟨R1.len, fun i y e => (R1.sl i y e).mono P fun _ _ _ _ q => q, fun c h => ⟨(R1.own1 c h).1, fun z => ?_, (R1.own1 c h).2.2⟩, R1.own2, R1.c.more P (fun _ _ _ _ _ _ q => q) f.nio f.nF (fun _ h => h) (hb.mono P fun _ q => q), ⟨R1.b.p.trans P, R1.b.keep, R1.b.dom, fun c hc n => ?_, R1.b.nF⟩⟩
      · rcases List.mem_append.mp z with z | z
        · exact (R1.own1 c h).2.1 z
        · have : c = a := by simpa using z
          subst this
          exact f.now h
      · rcases List.mem_append.mp hc with hc | hc
        · exact R1.b.nio c hc n
        · have : c = a := by simpa using hc
          subst this
          exact f.bn
    · show (G1.io ++ [a])[s1.st.length]? = _
      rw [R1.c.len, List.getElem?_append_right (Nat.le_refl _), Nat.sub_self]
      rfl
  cases x with
  | fl l => cases p1 with | fl e1 r f => exact fin _ (.ls l) f (.ls e1 r) q1
  | fd t l => cases p1 with
    | fdK e1 r f => exact fin _ (.dc false l) f (.dcK e1 r) q1
    | fdT e1 r f => exact fin _ (.dc true l) f (.dcT e1 r) q1
  | va d => exact q1 _ _ _ z1 R1 p1
  | own i => exact q1.elim
end
end BB

namespace BB
open PySem PySem.Spec PyProof.Rows L2
section
variable (T : Tab) (K : PySem.W.Frag) (B : Bs) (W : WX)
/-- what a return hands out -/
inductive RX (G : Gh) (H : Hp) : V → R → Prop
  | va {v : V} {d : D} : RV T K G H v d → RX G H v (.va d)
  | fl {a : Addr} {vs : List V} {l : List D} : H a = some (.lst vs) → RVs T K G H vs l → ¬ G.F a → a ∉ G.io → B.H a = none → RX G H (.ref a) (.fl l)
  | fdK {a : Addr} {vs : List (Key × V)} {l : List (D × D)} : H a = some (.dK vs) → RKs T K G H vs l → ¬ G.F a → a ∉ G.io → B.H a = none → RX G H (.ref a) (.fd false l)
  | fdT {a : Addr} {vs : List (List Key × V)} {l : List (D × D)} : H a = some (.dT vs) → RTs T K G H vs l → ¬ G.F a → a ∉ G.io → B.H a = none → RX G H (.ref a) (.fd true l)
  | own {v : V} {i : Nat} : RX G H v (.own i)
def FAt (f : Fl) (G0 : Gh) (H0 : Hp) (D : Ends) : Prop := match f with
  | .nx s' => ∀ G' σ' H', Pers G0 H0 G' H' → Rel T K B G' s' σ' H' → D.nx σ' H'
  | .bk s' => ∀ G' σ' H', Pers G0 H0 G' H' → Rel T K B G' s' σ' H' → D.bk σ' H'
  | .ct s' => ∀ G' σ' H', Pers G0 H0 G' H' → Rel T K B G' s' σ' H' → D.ct σ' H'
  | .rt r s' => ∀ G' σ' H' v, Pers G0 H0 G' H' → Rel T K B G' s' σ' H' → RX T K B G' H' v r → D.rt v H'
  | .ex n fs s' => ∀ G' σ' H' cls d, Pers G0 H0 G' H' → Rel T K B G' s' σ' H' → ExR T K n fs cls d G' H' → W cls d σ' H'
  | .bad => False
abbrev tS (f : S → Fl) : TS := fun D σ H => ∃ G s, Rel T K B G s σ H ∧ FAt T K B W (f s) G H D
end
section
variable {T : Tab} {K : PySem.W.Frag} {B : Bs} {W : WX}
theorem FAt.mono {f : Fl} {G0 G : Gh} {H0 H : Hp} {D : Ends} (h : FAt T K B W f G0 H0 D) (p : Pers G0 H0 G H) : FAt T K B W f G H D := by
  cases f with
  | nx s => exact fun G' σ' H' q => h G' σ' H' (p.trans q)
  | bk s => exact fun G' σ' H' q => h G' σ' H' (p.trans q)
  | ct s => exact fun G' σ' H' q => h G' σ' H' (p.trans q)
  | rt r s => exact fun G' σ' H' v q => h G' σ' H' v (p.trans q)
  | ex n fs s => exact fun G' σ' H' cls d q => h G' σ' H' cls d (p.trans q)
  | bad => exact h
theorem f_bind {α β : Type} {P : PP α β} {o : Oc α} {f : α → S → Fl} {G0 G : Gh} {s : S} {σ : St} {H0 H : Hp} {D : Ends} {Q : β → Hp → Prop}
    (h : FAt T K B W (o.fl f) G0 H0 D) (p0 : Pers G0 H0 G H) (k : ∀ a s1 G1 H1 b1, Stp σ G s H G1 s1 H1 → Pers G0 H0 G1 H1 → Rel T K B G1 s1 σ H1 → P s H G1 s1 σ H1 b1 a → FAt T K B W (f a s1) G1 H1 D → Q b1 H1) : At T K B W P o G s σ H Q := by
  cases o with
  | ok a s1 => exact fun G1 H1 b1 st R1 p1 => k a s1 G1 H1 b1 st (p0.trans st.p) R1 p1 (FAt.mono h (p0.trans st.p))
  | ex n fs s1 => exact fun G' H' cls d p R x => h G' σ H' cls d (p0.trans p) R x
  | bad => exact h
theorem RR.rx {s0 s : S} {H0 H : Hp} {G : Gh} {σ : St} {v : V} {r : R} (h : RR T K B s0 H0 G s σ H v r) : RX T K B G H v r := by
  cases h with
  | va q => exact .va q
  | fl e q f => exact .fl e q f.nF f.nio f.bn
  | fdK e q f => exact .fdK e q f.nF f.nio f.bn
  | fdT e q f => exact .fdT e q f.nF f.nio f.bn
  | own _ => exact .own

/-! a name stored -/
theorem own_stored {s : S} {σ : St} {i j : Nat} {x : Slot} {v : V} {a : Addr} (hij : i ≠ j) (h : Own (setE s i x) (σ.set i (some v)) j a) : Own s σ j a := by
  obtain ⟨⟨y, e, ho⟩, e2⟩ := h
  rw [setE_get, if_neg hij] at e
  rw [List.getElem?_set_ne hij] at e2
  exact ⟨⟨y, e, ho⟩, e2⟩
theorem own_at_i {s : S} {σ : St} {i : Nat} {x : Slot} {v : V} {a : Addr} (h : Own (setE s i x) (σ.set i (some v)) i a) : isOwn x = true ∧ v = .ref a ∧ i < σ.length := by
  obtain ⟨⟨y, e, ho⟩, e2⟩ := h
  rw [setE_get, if_pos rfl] at e
  split at e
  · injection e with e; subst e
    rw [List.getElem?_set] at e2
    rw [if_pos rfl] at e2
    split at e2
    · rename_i hl; injection e2 with e2; injection e2 with e2; exact ⟨ho, e2, hl⟩
    · cases e2
  · cases e
theorem Rel.stored {G : Gh} {s : S} {σ : St} {H : Hp} {i : Nat} {x : Slot} {v : V} (hR : Rel T K B G s σ H) (r : SlotR T K G H (some (some v)) x) (ho : isOwn x = true → ∀ a, v = .ref a → ¬ G.F a ∧ a ∉ G.io ∧ B.H a = none ∧ ¬ OwnA s σ a) :
    Rel T K B G (setE s i x) (σ.set i (some v)) H := by
  refine ⟨by show (s.env.set i x).length = _; rw [List.length_set, List.length_set]; exact hR.len, fun j y e => ?_, fun a h => ?_, fun j l a h1 h2 => ?_, hR.c, hR.b⟩
  · rw [setE_get] at e
    split at e
    · rename_i hij
      split at e
      · rename_i hl
        injection e with e; subst e; subst hij
        rw [List.getElem?_set_self (by rw [← hR.len]; exact hl)]
        exact r
      · cases e
    · rename_i hij
      rw [List.getElem?_set_ne hij]
      exact hR.sl j y e
  · obtain ⟨j, h⟩ := h
    by_cases hij : i = j
    · subst hij
      obtain ⟨h1, h2, _⟩ := own_at_i h
      have z := ho h1 a h2
      exact ⟨z.1, z.2.1, z.2.2.1⟩
    · exact hR.own1 a ⟨j, own_stored hij h⟩
  · by_cases hj : i = j <;> by_cases hl : i = l
    · exact hj.symm.trans hl
    · subst hj
      obtain ⟨g1, g2, _⟩ := own_at_i h1
      exact absurd ⟨l, own_stored hl h2⟩ (ho g1 a g2).2.2.2
    · subst hl
      obtain ⟨g1, g2, _⟩ := own_at_i h2
      exact absurd ⟨j, own_stored hj h1⟩ (ho g1 a g2).2.2.2
    · exact hR.own2 j l a (own_stored hj h1) (own_stored hl h2)
theorem RR.slot {G : Gh} {s0 s : S} {σ : St} {H0 H : Hp} {i : Nat} {v : V} {r : R} {x : Slot} (hR : Rel T K B G s σ H) (h : RR T K B s0 H0 G s σ H v r)
    (e : (match r with | .fl l => some (Slot.ol l) | .fd t l => some (Slot.od t l) | .va d => some (Slot.va d) | .own _ => none) = some x) : Rel T K B G (setE s i x) (σ.set i (some v)) H := by
  cases h with
  | va q => injection e with e; subst e; exact hR.stored (.va q) fun z => by cases z
  | fl e1 q f => injection e with e; subst e; exact hR.stored (.ol e1 q) fun _ a z => by cases z; exact ⟨f.nF, f.nio, f.bn, f.now⟩
  | fdK e1 q f => injection e with e; subst e; exact hR.stored (.odK e1 q) fun _ a z => by cases z; exact ⟨f.nF, f.nio, f.bn, f.now⟩
  | fdT e1 q f => injection e with e; subst e; exact hR.stored (.odT e1 q) fun _ a z => by cases z; exact ⟨f.nF, f.nio, f.bn, f.now⟩
  | own _ => cases e
/-- an own list grows -/
theorem Rel.grown {G : Gh} {s : S} {σ : St} {H : Hp} {i : Nat} {l : List D} {d : D} {y : V} (hR : Rel T K B G s σ H) (e : s.env[i]? = some (.ol l)) (r : RV T K G H y d) :
    ∃ a vs, σ[i]? = some (some (.ref a)) ∧ H a = some (.lst vs) ∧ vs.length = l.length ∧ Rel T K B G (setE s i (.ol (l ++ [d]))) σ (upd H a (.lst (vs ++ [y]))) ∧ Pers G H G (upd H a (.lst (vs ++ [y]))) := by
  obtain ⟨a, e1, ow⟩ := own_at hR e rfl
  have z := hR.sl _ _ e
  rw [e1] at z
  cases z with
  | @ol _ vs _ hv rv =>
    have o1 := hR.own1 a ⟨i, ow⟩
    have P : Pers G H G (upd H a (.lst (vs ++ [y]))) := ⟨fun _ _ h => h, fun _ h => h, fun b h => upd_ne (fun z => o1.1 (z ▸ h)), fun b xs h => by rw [upd_ne (fun z => by rw [z, hv] at h; cases h)]; exact h, fun b u w h => by rw [upd_ne (fun z => by rw [z, hv] at h; cases h)]; exact h, fun b u h => by rw [upd_ne (fun z => by rw [z, hv] at h; cases h)]; exact h⟩
    have sub : ∀ {j : Nat} {b : Addr}, Own (setE s i (.ol (l ++ [d]))) σ j b → Own s σ j b := fun {j b} h => by
      obtain ⟨⟨x, e3, ho⟩, e4⟩ := h
      rw [setE_get] at e3
      split at e3
      · rename_i hij; subst hij; exact ⟨⟨_, e, rfl⟩, e4⟩
      · exact ⟨⟨x, e3, ho⟩, e4⟩
    refine ⟨a, vs, e1, hv, rv.length, ⟨by show (s.env.set i _).length = _; rw [List.length_set]; exact hR.len, fun j x e3 => ?_, fun b ⟨j, h⟩ => hR.own1 b ⟨j, sub h⟩, fun j m b h1 h2 => hR.own2 j m b (sub h1) (sub h2), ⟨hR.c.len, fun j o b e3 e4 => (hR.c.bx j o b e3 e4).mono P fun u q => ?_, hR.c.nd, hR.c.ioF, fun b h z => ?_⟩, ⟨hR.b.p.trans P, fun b u e3 n => ?_, fun b e3 z => ?_, hR.b.nio, hR.b.nF⟩⟩, P⟩
    · rw [setE_get] at e3
      split at e3
      · rename_i hij; subst hij
        split at e3
        · injection e3 with e3; subst e3
          rw [e1]
          exact .ol upd_same ((rv.mono P).append (.cons (r.mono P) .nil))
        · cases e3
      · rename_i hij
        refine (hR.sl j x e3).mono P fun b u e4 ho e5 => ?_
        rw [upd_ne]; exact e5
        rintro rfl
        exact hij (hR.own2 i j b ow ⟨⟨x, e3, ho⟩, e4⟩)
    · rw [upd_ne]; exact q
      rintro rfl
      exact o1.2.1 (List.mem_of_getElem? e4)
    · by_cases hb : b = a
      · subst hb; exact o1.1 h
      · rw [upd_ne hb] at z; exact hR.c.Fd b h z
    · rw [upd_ne]; exact hR.b.keep b u e3 n
      rintro rfl
      rw [o1.2.2] at e3; cases e3
    · by_cases hb : b = a
      · subst hb; exact e3 o1.2.2
      · rw [upd_ne hb] at z; exact hR.b.dom b e3 z
/-- an own list is written anew -/
theorem Rel.anew {G : Gh} {s : S} {σ : St} {H : Hp} {i : Nat} {l l' : List D} {g : List V → List V} (hR : Rel T K B G s σ H) (e : s.env[i]? = some (.ol l)) (r : ∀ vs, RVs T K G H vs l → RVs T K G H (g vs) l') :
    ∃ a vs, σ[i]? = some (some (.ref a)) ∧ H a = some (.lst vs) ∧ vs.length = l.length ∧ Rel T K B G (setE s i (.ol l')) σ (upd H a (.lst (g vs))) ∧ Pers G H G (upd H a (.lst (g vs))) := by
  obtain ⟨a, e1, ow⟩ := own_at hR e rfl
  have z := hR.sl _ _ e
  rw [e1] at z
  cases z with
  | @ol _ vs _ hv rv =>
    have o1 := hR.own1 a ⟨i, ow⟩
    have P : Pers G H G (upd H a (.lst (g vs))) := ⟨fun _ _ h => h, fun _ h => h, fun b h => upd_ne (fun z => o1.1 (z ▸ h)), fun b xs h => by rw [upd_ne (fun z => by rw [z, hv] at h; cases h)]; exact h, fun b u w h => by rw [upd_ne (fun z => by rw [z, hv] at h; cases h)]; exact h, fun b u h => by rw [upd_ne (fun z => by rw [z, hv] at h; cases h)]; exact h⟩
    have sub : ∀ {j : Nat} {b : Addr}, Own (setE s i (.ol l')) σ j b → Own s σ j b := fun {j b} h => by
      obtain ⟨⟨x, e3, ho⟩, e4⟩ := h
      rw [setE_get] at e3
      split at e3
      · rename_i hij; subst hij; exact ⟨⟨_, e, rfl⟩, e4⟩
      · exact ⟨⟨x, e3, ho⟩, e4⟩
    refine ⟨a, vs, e1, hv, rv.length, ⟨by show (s.env.set i _).length = _; rw [List.length_set]; exact hR.len, fun j x e3 => ?_, fun b ⟨j, h⟩ => hR.own1 b ⟨j, sub h⟩, fun j m b h1 h2 => hR.own2 j m b (sub h1) (sub h2), ⟨hR.c.len, fun j o b e3 e4 => (hR.c.bx j o b e3 e4).mono P fun u q => ?_, hR.c.nd, hR.c.ioF, fun b h z => ?_⟩, ⟨hR.b.p.trans P, fun b u e3 n => ?_, fun b e3 z => ?_, hR.b.nio, hR.b.nF⟩⟩, P⟩
    · rw [setE_get] at e3
      split at e3
      · rename_i hij; subst hij
        split at e3
        · injection e3 with e3; subst e3
          rw [e1]
          exact .ol upd_same ((r vs rv).mono P)
        · cases e3
      · rename_i hij
        refine (hR.sl j x e3).mono P fun b u e4 ho e5 => ?_
        rw [upd_ne]; exact e5
        rintro rfl
        exact hij (hR.own2 i j b ow ⟨⟨x, e3, ho⟩, e4⟩)
    · rw [upd_ne]; exact q
      rintro rfl
      exact o1.2.1 (List.mem_of_getElem? e4)
    · by_cases hb : b = a
      · subst hb; exact o1.1 h
      · rw [upd_ne hb] at z; exact hR.c.Fd b h z
    · rw [upd_ne]; exact hR.b.keep b u e3 n
      rintro rfl
      rw [o1.2.2] at e3; cases e3
    · by_cases hb : b = a
      · subst hb; exact e3 o1.2.2
      · rw [upd_ne hb] at z; exact hR.b.dom b e3 z
end
section
variable {T : Tab} {B : Bs} {W : WX} {X : Cx}
theorem sS_set {i : Nat} {x : Str} {px p : Pos} {e : Expr} {c : S → Oc R} (hN : X.N.Nodup) (hi : X.N[i]? = some x) (hx : Loc X.env.scope x) (he : PE X e (tE T X.K B W c)) (hs : swapsWith e (some (.Name x px)) p.line X.env = pure false) (hf : X.fn x = true ∨ X.env.scope.names.lookup x = some .local) :
    PS X (.Assign [.Name x px] e p) (tS T X.K B W fun s => (c s).fl fun r s1 => match keepR r with
    | some d => .nx (setE s1 i (.va d))
    | none => .bad) := ps_imp (ps_set hN hi hx he hs hf) fun D σ H ⟨G, s, hR, q⟩ => by
  refine ⟨G, s, hR, f_bind (P := PR T X.K B) q (.refl _ _) fun r s1 G1 H1 v st p1 R1 r1 q1 => ?_⟩
  split at q1
  · rename_i d hk
    obtain ⟨G2, st2, R2, rv, P2⟩ := keep1p R1 st r1 hk
    exact q1 _ _ _ P2 (R2.stored (.va rv) fun z => by cases z)
  · exact q1.elim
theorem sS_seto {i : Nat} {x : Str} {px p : Pos} {e : Expr} {c : S → Oc R} (hN : X.N.Nodup) (hi : X.N[i]? = some x) (hx : Loc X.env.scope x) (he : PE X e (tE T X.K B W c)) (hs : swapsWith e (some (.Name x px)) p.line X.env = pure false) (hf : X.fn x = true ∨ X.env.scope.names.lookup x = some .local) :
    PS X (.Assign [.Name x px] e p) (tS T X.K B W fun s => (c s).fl fun r s1 => match r with
    | .fl l => .nx (setE s1 i (.ol l))
    | .fd t l => .nx (setE s1 i (.od t l))
    | .va d => .nx (setE s1 i (.va d))
    | .own _ => .bad) := ps_imp (ps_set hN hi hx he hs hf) fun D σ H ⟨G, s, hR, q⟩ => by
  refine ⟨G, s, hR, f_bind (P := PR T X.K B) q (.refl _ _) fun r s1 G1 H1 v st p1 R1 r1 q1 => ?_⟩
  cases r with
  | fl l => exact q1 _ _ _ (.refl _ _) (RR.slot R1 r1 rfl)
  | fd t l => exact q1 _ _ _ (.refl _ _) (RR.slot R1 r1 rfl)
  | va d => exact q1 _ _ _ (.refl _ _) (RR.slot R1 r1 rfl)
  | own i => exact q1.elim
/-! targets -/
def tgs : List (Nat × Str × Pos) → TGs
  | [] => gNil
  | (i, _, _) :: r => gCons (gName i) (tgs r)
/-- the names of a target are slots -/
def NmOk (X : Cx) (i : Nat) (x : Str) : Prop := X.N[i]? = some x ∧ Loc X.env.scope x ∧ (X.fn x = true ∨ X.env.scope.names.lookup x = some .local)
def NmsOk (X : Cx) : List (Nat × Str × Pos) → Prop
  | [] => True
  | (i, x, _) :: r => NmOk X i x ∧ NmsOk X r
theorem pgs_names (hN : X.N.Nodup) : ∀ {l : List (Nat × Str × Pos)}, NmsOk X l → PGs X (upNs l) (tgs l)
  | [], _ => pgs_nil
  | (i, x, p) :: r, h => pgs_cons (pg_name hN h.1.1 h.1.2.1 h.1.2.2) (pgs_names hN h.2)
theorem each_len {env : Env} : ∀ l : List (Nat × Str × Pos), (assignEach (upNs l) env).length = l.length
  | [] => rfl
  | (i, x, p) :: r => by
    show (assignEach (upNs r) env).length + 1 = _
    rw [each_len r]; rfl
theorem each_star {env : Env} : ∀ l : List (Nat × Str × Pos), (assignEach (upNs l) env).findIdx? (·.1) = none
  | [] => rfl
  | (i, x, p) :: r => by
    have ih := each_star (env := env) r
    show List.findIdx? (·.1) ((false, _) :: assignEach (upNs r) env) = none
    rw [List.findIdx?_cons, ih]; rfl
theorem bindN_len : ∀ {l : List (Nat × Str × Pos)} {ds : List D} {s s2 : S}, bindN l ds s = some s2 → l.length = ds.length
  | [], [], _, _, _ => rfl
  | [], _ :: _, _, _, e => by cases e
  | _ :: _, [], _, _, e => by cases e
  | (i, x, p) :: r, d :: ds, s, s2, e => by
    have e : bindN r ds (setE s i (.va d)) = some s2 := e
    rw [List.length_cons, List.length_cons, bindN_len e]
theorem tgs_ok {K : PySem.W.Frag} {G : Gh} {H : Hp} {Q : St → Hp → Prop} : ∀ {l : List (Nat × Str × Pos)} {ds : List D} {vs : List V} {s s2 : S} {σ : St}, bindN l ds s = some s2 → RVs T K G H vs ds → Rel T K B G s σ H → (∀ σ', Rel T K B G s2 σ' H → Q σ' H) → tgs l vs σ H Q
  | [], [], _, _, _, _, e, .nil, hR, q => by injection e with e; subst e; exact ⟨rfl, q _ hR⟩
  | [], _ :: _, _, _, _, _, e, _, _, _ => by cases e
  | _ :: _, [], _, _, _, _, e, _, _, _ => by cases e
  | (i, x, p) :: r, d :: ds, _, s, s2, σ, e, .cons rv t, hR, q => by
    have e : bindN r ds (setE s i (.va d)) = some s2 := e
    exact ⟨_, _, rfl, tgs_ok e t (hR.stored (.va rv) fun z => by cases z) q⟩
theorem pg_or {tg : Expr} {t u : TG} (a : PG X tg t) (b : PG X tg u) : PG X tg fun v σ H Q => t v σ H Q ∨ u v σ H Q :=
  ⟨fun pins s σ H v w Q I r h => h.elim (fun h => a.run pins s σ H v w Q I r h) fun h => b.run pins s σ H v w Q I r h⟩
/-- a tuple's or a list's items, by what is seen -/
theorem sS_unp {l : List (Nat × Str × Pos)} {k : Nat} {pt p : Pos} {e : Expr} {c : S → Oc R} (hc : X.calm = true) (hN : X.N.Nodup) (hl : NmsOk X l) (he : PE X e (tE T X.K B W c)) (hs : swapsWithSole [.Tuple (upNs l) k pt] e p.line X.env = pure false) (hw : swappedStores [.Tuple (upNs l) k pt] e X.env = pure none) :
    PS X (.Assign [.Tuple (upNs l) k pt] e p) (tS T X.K B W fun s => (c s).fl fun r s1 => match unpItems s1 r with
    | some ds => match bindN l ds s1 with
      | some s2 => .nx s2
      | none => .bad
    | none => .bad) := by
  have ht : PG X (.Tuple (upNs l) k pt) (gTup X.K l.length (tgs l)) := pg_tup hc (pgs_names hN hl) (each_len l) (each_star l)
  have hu : PG X (.Tuple (upNs l) k pt) (gUnl X.K l.length (tgs l)) := pg_unl hc (pgs_names hN hl) (each_len l) (each_star l)
  refine ps_imp (ps_asg he (pg_or ht hu) hs hw) fun D σ H ⟨G, s, hR, q⟩ => ?_
  refine ⟨G, s, hR, f_bind (P := PR T X.K B) q (.refl _ _) fun r s1 G1 H1 v st p1 R1 r1 q1 => ?_⟩
  split at q1
  · rename_i ds hd
    split at q1
    · rename_i s2 hb
      unfold unpItems at hd
      split at hd
      · cases hd
      · cases hd
      · split at hd
        · rename_i l' hv
          injection hd with hd; subst hd
          cases view_ok R1 r1 hv with
          | ls a b => exact .inr ⟨_, _, rfl, .inl a, by rw [b.length, bindN_len hb], tgs_ok hb b R1 fun σ' R2 => q1 _ _ _ (.refl _ _) R2⟩
        · rename_i l' hv
          injection hd with hd; subst hd
          cases view_ok R1 r1 hv with
          | «at» a => cases a with
            | tup a b => exact .inl ⟨_, _, rfl, a, by rw [b.length, bindN_len hb], tgs_ok hb b R1 fun σ' R2 => q1 _ _ _ (.refl _ _) R2⟩
        · cases hd
    · exact q1.elim
  · exact q1.elim
theorem sS_expr {e : Expr} {c : S → Oc R} {p : Pos} (he : PE X e (tE T X.K B W c)) (hs : swapsWith e none p.line X.env = pure false) : PS X (.Expr e p) (tS T X.K B W fun s => (c s).fl fun _ s1 => .nx s1) := ps_imp (ps_expr he hs) fun D σ H ⟨G, s, hR, q⟩ =>
  ⟨G, s, hR, f_bind (P := PR T X.K B) q (.refl _ _) fun r s1 G1 H1 v st p1 R1 r1 q1 => q1 _ _ _ (.refl _ _) R1⟩
theorem sS_ret {e : Expr} {c : S → Oc R} {p : Pos} (he : PE X e (tE T X.K B W c)) : PS X (.Return (some e) p) (tS T X.K B W fun s => (c s).fl fun r s1 => .rt r s1) := ps_imp (ps_ret he) fun D σ H ⟨G, s, hR, q⟩ =>
  ⟨G, s, hR, f_bind (P := PR T X.K B) q (.refl _ _) fun r s1 G1 H1 v st p1 R1 r1 q1 => q1 _ _ _ v (.refl _ _) R1 r1.rx⟩
theorem sS_ret0 {p : Pos} : PS X (.Return none p) (tS T X.K B W fun s => .rt (.va .non) s) := ps_imp ps_retN fun D σ H ⟨G, s, hR, q⟩ => q _ _ _ .non (.refl _ _) hR (.va .non)
theorem sS_swp2 {i j : Nat} {x y : Str} {a b : Expr} {cs : S → Oc (List R)} {px py pt pt2 p : Pos} {kt k2 : Nat} (hc : X.calm = true) (hN : X.N.Nodup) (hi : X.N[i]? = some x) (hj : X.N[j]? = some y) (hij : i ≠ j)
    (hx : X.env.scope.names.lookup x = some .local) (hy : X.env.scope.names.lookup y = some .local) (ha : PA X [a, b] (tL T X.K B W cs))
    (hw : swappedStores [.Tuple [.Name x px, .Name y py] kt pt] (.Tuple [a, b] k2 pt2) X.env = pure (some [x, y])) (hs : swapsWithSole [.Tuple [.Name x px, .Name y py] kt pt] (.Tuple [a, b] k2 pt2) p.line X.env = pure false) :
    PS X (.Assign [.Tuple [.Name x px, .Name y py] kt pt] (.Tuple [a, b] k2 pt2) p) (tS T X.K B W fun s => (cs s).fl fun rs s1 => match keepRs rs with
    | some [d, e] => .nx (setE (setE s1 i (.va d)) j (.va e))
    | _ => .bad) := ps_imp (ps_par hc hN hi hj hij hx hy ha hw hs) fun D σ H ⟨G, s, hR, q⟩ =>
  ⟨G, s, hR, f_bind (P := PRs T X.K B) q (.refl _ _) fun rs s1 G1 H1 vs st p1 R1 r1 q1 => by
    split at q1
    · rename_i d e hk
      obtain ⟨G2, st2, R2, rv, P2⟩ := keepNp R1 st r1 hk
      cases rv with | cons ra rv => cases rv with | cons rb rv =>
      cases rv
      have Ra := R2.stored (i := i) (.va ra) fun z => by cases z
      have Rb := Ra.stored (i := j) (.va rb) fun z => by cases z
      exact ⟨_, _, rfl, q1 _ _ _ P2 Rb⟩
    · exact q1.elim⟩
theorem sS_pass {p : Pos} : PS X (.Pass p) (tS T X.K B W fun s => .nx s) := ps_imp ps_pass fun D σ H ⟨G, s, hR, q⟩ => q _ _ _ (.refl _ _) hR
theorem sB_nil : PSs X [] (tS T X.K B W fun s => .nx s) := pss_imp pss_nil fun D σ H ⟨G, s, hR, q⟩ => q _ _ _ (.refl _ _) hR
theorem sB_cons {st : Stmt} {rest : List Stmt} {f g : S → Fl} (h1 : PS X st (tS T X.K B W f)) (h2 : PSs X rest (tS T X.K B W g)) : PSs X (st :: rest) (tS T X.K B W fun s => match f s with
    | .nx s1 => g s1
    | f => f) := pss_imp (pss_cons h1 h2) fun D σ H ⟨G, s, hR, q⟩ => by
  refine ⟨G, s, hR, ?_⟩
  revert q
  dsimp only
  cases f s with
  | nx s1 => exact fun q G' σ' H' p R' => ⟨G', s1, R', q.mono p⟩
  | rt r s1 => exact fun q => q
  | bk s1 => exact fun q => q
  | ct s1 => exact fun q => q
  | ex n fs s1 => exact fun q => q
  | bad => exact fun q => q
theorem sS_if {e : Expr} {a b : List Stmt} {c : S → Oc Bool} {f g : S → Fl} {p : Pos} (he : PT X e (tT T X.K B W c)) (h1 : PSs X a (tS T X.K B W f)) (h2 : PSs X b (tS T X.K B W g)) : PS X (.If e a b p) (tS T X.K B W fun s => (c s).fl fun t s1 => if t = true then f s1 else g s1) := ps_imp (ps_if he h1 h2) fun D σ H ⟨G, s, hR, q⟩ => by
  refine ⟨G, s, hR, f_bind (P := PB) q (.refl _ _) fun t s1 G1 H1 b st p1 R1 r1 q1 => ?_⟩
  cases (show b = t from r1)
  cases t with
  | true => exact ⟨G1, s1, R1, q1⟩
  | false => exact ⟨G1, s1, R1, q1⟩
theorem RVs.rev {K : PySem.W.Frag} {G : Gh} {H : Hp} : ∀ {vs : List V} {l : List D}, RVs T K G H vs l → RVs T K G H vs.reverse l.reverse
  | _, _, .nil => .nil
  | _, _, .cons r t => by
    rw [List.reverse_cons, List.reverse_cons]
    exact (RVs.rev t).append (.cons r .nil)
/-- x.reverse(), x an own list -/
theorem sS_rev {i : Nat} {x : Str} {px pa pc p : Pos} (hx : PE X (.Name x px) (tVar i)) (hline : (pa.endLine == pc.line) = true) :
    PS X (.Expr (.Call (.Attribute (.Name x px) "reverse" pa) [] [] pc) p) (tS T X.K B W fun s => match s.env[i]? with
    | some (.ol l) => .nx (setE s i (.ol l.reverse))
    | _ => .bad) := by
  refine ps_imp (ps_expr (pe_bm0 PySem.F.plainAttrs_list PySem.F.slot_list_reverse PySem.F.type_list_reverse mt_reverse hx rfl hline)) fun De σ H ⟨G, s, hR, q⟩ => ?_
  dsimp only at q
  split at q
  · rename_i l e0
    obtain ⟨a, vs, g1, g2, g3, g4, g5⟩ := hR.anew (g := List.reverse) (l' := l.reverse) e0 fun vs r => r.rev
    exact ⟨_, g1, .inl ⟨rfl, _, .inl (.inl g2)⟩, a, vs, rfl, rfl, g2, q _ _ _ g5 g4⟩
  · exact q.elim
theorem sS_app {i : Nat} {x : Str} {px pa pc p : Pos} {e : Expr} {c : S → Oc R} (hx : PE X (.Name x px) (tVar i)) (he : PE X e (tE T X.K B W c)) (hst : starEach [e] X.env = (false, eval e X.env) :: starEach [] X.env) (hline : (pa.endLine == pc.line) = true) :
    PS X (.Expr (.Call (.Attribute (.Name x px) "append" pa) [e] [] pc) p) (tS T X.K B W fun s => match s.env[i]? with
    | some (.ol _) => (c s).fl fun r s1 => match keepR r, s1.env[i]? with
      | some d, some (.ol l) => if l.length < sizeLine then .nx (setE s1 i (.ol (l ++ [d]))) else .bad
      | _, _ => .bad
    | _ => .bad) := by
  have hpl : (backTo pc (starEach [] X.env)).any (·.1) = false := rfl
  have hfew : ((backTo pc (starEach [e] X.env)).all (fun x => !x.1) && (backToKw pc (keywordEach [] X.env)).all (fun x => x.1.isSome)
      && decide (([e] : List Expr).length + ([] : List Keyword).length + (if ([] : List Keyword).isEmpty then 0 else 1) < 30)) = true := by rw [hst]; rfl
  refine ps_imp (ps_expr (pe_bm PySem.F.plainAttrs_list PySem.F.slot_list_append PySem.F.type_list_append mt_append hx (pa_cons he pa_nil hst) rfl hfew hline hst hpl)) fun D σ H ⟨G, s, hR, q⟩ => ?_
  dsimp only at q
  split at q
  · rename_i l0 e0
    obtain ⟨a, e1, ow⟩ := own_at hR e0 rfl
    have z := hR.sl _ _ e0
    rw [e1] at z
    cases z with
    | ol hv rv =>
      refine ⟨_, e1, .inl ⟨rfl, _, .inl (.inl hv)⟩, G, s, hR, f_bind (P := PR T X.K B) q (.refl _ _) fun r s1 G1 H1 v st p1 R1 r1 q1 => ?_⟩
      split at q1
      · rename_i d l hk e2
        split at q1
        · rename_i hz
          obtain ⟨G2, st2, R2, rv, P2⟩ := keep1p R1 st r1 hk
          obtain ⟨a', vs, g1, g2, g3, g4, g5⟩ := R2.grown e2 rv
          rw [e1] at g1
          cases g1
          exact ⟨a, vs, v, rfl, rfl, g2, by rw [g3]; exact hz, q1 _ _ _ (P2.trans g5) g4⟩
        · exact q1.elim
      · exact q1.elim
  · exact q.elim
/-! loops -/
theorem sS_while {e : Expr} {body : List Stmt} {c : S → Oc Bool} {f : S → Fl} {p : Pos} {n : Nat} (hp : PassesOwn (model X.prog X.w) X.A X.env X.xe) (he : PT X e (tT T X.K B W c)) (hb : PSs X body (tS T X.K B W f)) :
    PS X (.While e body [] p) (tS T X.K B W fun s => whTurns c f n s) := ps_imp (ps_while hp he hb) fun D σ H ⟨G, s, hR, q⟩ => by
  refine ⟨fun m σ' H' => ∃ G' s', Rel T X.K B G' s' σ' H' ∧ Pers G H G' H' ∧ FAt T X.K B W (whTurns c f m s') G' H' D, ⟨n, G, s, hR, .refl _ _, q⟩, ?_⟩
  rintro m σ1 H1 ⟨G1, s1, R1, P1, q1⟩
  cases m with
  | zero => exact q1.elim
  | succ m =>
    refine ⟨G1, s1, R1, ?_⟩
    unfold whTurns at q1
    revert q1
    cases c s1 with
    | bad => exact fun q1 => q1
    | ex n fs s2 => exact fun q1 G' H' cls d P R x => q1 G' σ1 H' cls d P R x
    | ok b s2 =>
      cases b with
      | false =>
        intro q1 G2 H2 b st R2 e
        cases (show b = false from e)
        exact q1 G2 σ1 H2 st.p R2
      | true =>
        intro q1 G2 H2 b st R2 e
        cases (show b = true from e)
        rw [if_pos rfl]
        refine ⟨fun σ' H' => ∃ G' s', Rel T X.K B G' s' σ' H' ∧ Pers G H G' H' ∧ FAt T X.K B W (whTurns c f m s') G' H' D, fun σ' H' h => ⟨m, Nat.lt_succ_self m, h⟩, G2, s2, R2, ?_⟩
        have q1 := q1.mono st.p
        revert q1
        dsimp only
        cases f s2 with
        | nx s3 => exact fun q1 G' σ' H' P R => ⟨G', s3, R, P1.trans (st.p.trans P), q1.mono P⟩
        | ct s3 => exact fun q1 G' σ' H' P R => ⟨G', s3, R, P1.trans (st.p.trans P), q1.mono P⟩
        | bk s3 => exact fun q1 => q1
        | rt r s3 => exact fun q1 => q1
        | ex n fs s3 => exact fun q1 => q1
        | bad => exact fun q1 => q1
/-- what an iterator yields -/
structure WalkOf (T : Tab) (K : PySem.W.Frag) (J : It) (l : List D) (G : Gh) (H : Hp) : Prop where
  go : ∀ i, i < l.length → ∀ G' H', Pers G H G' H' → J.go i H'
  stop : ∀ G' H', Pers G H G' H' → J.stop l.length H'
  yld : ∀ i d, l[i]? = some d → ∀ G' H' x H'', Pers G H G' H' → J.yld i H' x H'' → NewR T K G' H' H'' x (.va d)
def IAt (T : Tab) (K : PySem.W.Frag) (B : Bs) (W : WX) (o : Oc (List D)) (G0 : Gh) (s0 : S) (σ : St) (H0 : Hp) (R : It → Hp → Prop) : Prop := match o with
  | .ok l s' => ∀ G' H' J, Stp σ G0 s0 H0 G' s' H' → Rel T K B G' s' σ H' → WalkOf T K J l G' H' → R J H'
  | .ex n fs s' => ∀ G' H' cls d, Pers G0 H0 G' H' → Rel T K B G' s' σ H' → ExR T K n fs cls d G' H' → W cls d σ H'
  | .bad => False
def tI (T : Tab) (K : PySem.W.Frag) (B : Bs) (W : WX) (c : S → Oc (List D)) : TI := fun σ H R => ∃ G s, Rel T K B G s σ H ∧ IAt T K B W (c s) G s σ H R
def tTg (T : Tab) (K : PySem.W.Frag) (tg : Tg) : TG := match tg with
  | .nm i _ _ => gName i
  | .tp l _ _ => fun v σ H Q => gTup K l.length (tgs l) v σ H Q
def TgOk (X : Cx) : Tg → Prop
  | .nm i x _ => NmOk X i x
  | .tp l _ _ => NmsOk X l
theorem pg_tg (hc : X.calm = true) (hN : X.N.Nodup) {tg : Tg} (h : TgOk X tg) : PG X tg.up (tTg T X.K tg) := by
  cases tg with
  | nm i x p => exact pg_name hN h.1 h.2.1 h.2.2
  | tp l k p => exact pg_tup hc (pgs_names hN h) (each_len l) (each_star l)
theorem tg_ok {K : PySem.W.Frag} {tg : Tg} {d : D} {v : V} {G : Gh} {s s2 : S} {σ : St} {H : Hp} {Q : St → Hp → Prop} (e : bindT tg d s = some s2) (rv : RV T K G H v d) (hR : Rel T K B G s σ H) (q : ∀ σ', Rel T K B G s2 σ' H → Q σ' H) : tTg T K tg v σ H Q := by
  cases tg with
  | nm i x p => injection e with e; subst e; exact q _ (hR.stored (.va rv) fun z => by cases z)
  | tp l k p =>
    cases d <;> first | (cases e; done) | skip
    case tup ds =>
      cases rv with
      | tup a b => exact ⟨_, _, rfl, .inl (.inl a), by rw [b.length, bindN_len (show bindN l ds s = some s2 from e)], tgs_ok e b hR q⟩
theorem sS_for {tg : Tg} {it : Expr} {body : List Stmt} {c : S → Oc (List D)} {f : S → Fl} {p : Pos} (hp : PassesOwn (model X.prog X.w) X.A X.env X.xe) (hc : X.calm = true) (hN : X.N.Nodup) (hi : PI X tg.up it (tI T X.K B W c)) (ht : TgOk X tg) (hb : PSs X body (tS T X.K B W f)) (hs : ∀ x, foldedSetIterable it X.env x = pure x) :
    PS X (.For tg.up it body [] p) (tS T X.K B W fun s => (c s).fl fun l s1 => forTurns (fun d s => match bindT tg d s with
      | some s1 => f s1
      | none => .bad) l s1) := ps_imp (ps_for hp hc hi (pg_tg (T := T) hc hN ht) hb hs) fun D σ H ⟨G, s, hR, q⟩ => by
  refine ⟨G, s, hR, ?_⟩
  revert q
  dsimp only
  cases c s with
  | bad => exact fun q => q
  | ex n fs s1 => exact fun q G' H' cls d P R x => q G' σ H' cls d P R x
  | ok l s1 =>
    intro q G1 H1 J st R1 w
    have q : FAt T X.K B W (forTurns (fun d s => match bindT tg d s with
      | some s1 => f s1
      | none => .bad) l s1) G H D := q
    have q := q.mono st.p
    refine ⟨fun i m σ' H' => m + i = l.length ∧ ∃ G' s', Rel T X.K B G' s' σ' H' ∧ Pers G1 H1 G' H' ∧ FAt T X.K B W (forTurns (fun d s => match bindT tg d s with
      | some s1 => f s1
      | none => .bad) (l.drop i) s') G' H' D, ⟨l.length, rfl, G1, s1, R1, .refl _ _, q⟩, ?_⟩
    rintro i m σ2 H2 ⟨hm, G2, s2, R2, P2, q2⟩
    by_cases hi : i < l.length
    · right
      refine ⟨w.go i hi G2 H2 P2, fun σ' H' => ∃ G' s', Rel T X.K B G' s' σ' H' ∧ Pers G1 H1 G' H' ∧ FAt T X.K B W (forTurns (fun d s => match bindT tg d s with
        | some s1 => f s1
        | none => .bad) (l.drop (i + 1)) s') G' H' D, fun σ' H' h => ⟨m - 1, by omega, by omega, h⟩, fun x H3 hy => ?_⟩
      have n := w.yld i _ (List.getElem?_eq_getElem hi) G2 H2 x H3 P2 hy
      obtain ⟨st3, R3, r3⟩ := new_ok R2 n
      rw [List.drop_eq_getElem_cons hi] at q2
      unfold forTurns at q2
      revert q2
      cases e : bindT tg l[i] s2 with
      | none => exact fun q2 => q2.elim
      | some s3 =>
        intro q2
        dsimp only at q2
        cases r3 with
        | va rv =>
        refine tg_ok e rv R3 fun σ' R4 => ⟨G2, s3, R4, ?_⟩
        have q2 := q2.mono st3.p
        revert q2
        cases f s3 with
        | nx s4 => exact fun q2 G' σ' H' P R => ⟨G', s4, R, P2.trans (st3.p.trans P), q2.mono P⟩
        | ct s4 => exact fun q2 G' σ' H' P R => ⟨G', s4, R, P2.trans (st3.p.trans P), q2.mono P⟩
        | bk s4 => exact fun q2 => q2
        | rt r s4 => exact fun q2 => q2
        | ex n fs s4 => exact fun q2 => q2
        | bad => exact fun q2 => q2
    · left
      have e : i = l.length := by omega
      subst e
      rw [List.drop_length] at q2
      exact ⟨w.stop G2 H2 P2, q2 _ _ _ (.refl _ _) R2⟩
end
end BB

namespace BB
open PySem PySem.Spec PyProof.Rows L2
section
variable {T : Tab} {B : Bs} {W : WX} {X : Cx}
theorem pi_or {tg e : Expr} {t u : TI} (a : PI X tg e t) (b : PI X tg e u) : PI X tg e fun σ H R => t σ H R ∨ u σ H R :=
  ⟨fun pins s σ H R I h => h.elim (fun h => a.run pins s σ H R I h) fun h => b.run pins s σ H R I h⟩
theorem pi_imp {tg e : Expr} {t t' : TI} (h : PI X tg e t) (i : ∀ σ H R, t' σ H R → t σ H R) : PI X tg e t' := ⟨fun pins s σ H R I q => h.run pins s σ H R I (i σ H R q)⟩
theorem walk_list {K : PySem.W.Frag} {a : Addr} {vs : List V} {l : List D} {G : Gh} {H : Hp} (f : G.F a) (h : Rd H a (.lst vs)) (r : RVs T K G H vs l) (inj : ∀ H' ys, SqL K H' a vs → SqL K H' a ys → True) : WalkOf T K (Itl K a) l G H where
  go := fun i hi G' H' p => ⟨vs, vs[i]'(by rw [r.length]; exact hi), .inl (p.rd f h), List.getElem?_eq_getElem _⟩
  stop := fun G' H' p => ⟨vs, .inl (p.rd f h), by rw [r.length]; exact Nat.le_refl _⟩
  yld := fun i d hd G' H' x H'' p ⟨e, y⟩ => by
    subst e
    obtain ⟨v, h1, h2⟩ := (r.mono p).get hd
    have := y vs (.inl (p.rd f h))
    rw [h1] at this
    cases this
    exact .same h2
theorem walk_tup {K : PySem.W.Frag} {a : Addr} {vs : List V} {l : List D} {G : Gh} {H : Hp} (h : SqT K H a vs) (r : RVs T K G H vs l) : WalkOf T K (Itt K a) l G H where
  go := fun i hi G' H' p => ⟨vs, vs[i]'(by rw [r.length]; exact hi), p.sqT h, List.getElem?_eq_getElem _⟩
  stop := fun G' H' p => ⟨vs, p.sqT h, by rw [r.length]; exact Nat.le_refl _⟩
  yld := fun i d hd G' H' x H'' p ⟨e, y⟩ => by
    subst e
    obtain ⟨v, h1, h2⟩ := (r.mono p).get hd
    have := y vs (p.sqT h)
    rw [h1] at this
    cases this
    exact .same h2
theorem walk_str {K : PySem.W.Frag} {z : Str} {G : Gh} {H : Hp} : WalkOf T K (Its z) (z.cps.toList.map fun c => D.str ⟨#[c]⟩) G H where
  go := fun i hi G' H' p => by
    rw [List.length_map, Array.length_toList] at hi
    exact hi
  stop := fun G' H' p => by
    rw [List.length_map, Array.length_toList]
    exact Nat.le_refl z.cps.size
  yld := fun i d hd G' H' x H'' p ⟨e, c, y, hx⟩ => by
    subst e; subst hx
    rw [List.getElem?_map, Array.getElem?_toList, y] at hd
    cases hd
    exact .same (.str _)
theorem rngD_len : ∀ (n : Nat) (lo : Int), (rngD lo n).length = n
  | 0, _ => rfl
  | n + 1, lo => by unfold rngD; rw [List.length_cons, rngD_len n]
theorem rngD_get : ∀ (n : Nat) (lo : Int) (i : Nat) (d : D), (rngD lo n)[i]? = some d → d = .int (lo + i)
  | 0, _, _, _, h => by cases h
  | n + 1, lo, 0, d, h => by unfold rngD at h; cases h; simp
  | n + 1, lo, i + 1, d, h => by
    unfold rngD at h
    rw [List.getElem?_cons_succ] at h
    rw [rngD_get n _ i d h]
    congr 1
    omega
theorem walk_rng {K : PySem.W.Frag} {lo : Int} {n : Nat} {G : Gh} {H : Hp} : WalkOf T K (Itr lo n) (rngD lo n) G H where
  go := fun i hi G' H' p => by rw [rngD_len] at hi; exact hi
  stop := fun G' H' p => by rw [rngD_len]; exact Nat.le_refl _
  yld := fun i d hd G' H' x H'' p ⟨e, y⟩ => by
    subst e; subst y
    rw [rngD_get n lo i d hd]
    exact .same (.int _)
theorem enumD_len : ∀ (l : List D) (n : Nat), (enumD n l).length = l.length
  | [], _ => rfl
  | d :: ds, n => by unfold enumD; rw [List.length_cons, List.length_cons, enumD_len ds]
theorem enumD_get : ∀ (l : List D) (n i : Nat) (d : D), (enumD n l)[i]? = some d → ∃ e, l[i]? = some e ∧ d = .tup [.int ((n + i : Nat) : Int), e]
  | [], _, _, _, h => by cases h
  | x :: xs, n, 0, d, h => by unfold enumD at h; cases h; exact ⟨x, rfl, rfl⟩
  | x :: xs, n, i + 1, d, h => by
    unfold enumD at h
    rw [List.getElem?_cons_succ] at h
    obtain ⟨e, h1, h2⟩ := enumD_get xs (n + 1) i d h
    refine ⟨e, by rw [List.getElem?_cons_succ]; exact h1, ?_⟩
    rw [h2]
    congr 3
    omega
theorem walk_enum {K : PySem.W.Frag} {a : Addr} {vs : List V} {l : List D} {G : Gh} {H : Hp} (f : G.F a) (h : Rd H a (.lst vs)) (r : RVs T K G H vs l) : WalkOf T K (Ite K a) (enumD 0 l) G H where
  go := fun i hi G' H' p => ⟨vs, vs[i]'(by rw [r.length]; rw [enumD_len] at hi; exact hi), .inl (p.rd f h), List.getElem?_eq_getElem _⟩
  stop := fun G' H' p => ⟨vs, .inl (p.rd f h), by rw [r.length, enumD_len]; exact Nat.le_refl _⟩
  yld := fun i d hd G' H' x H'' p ⟨t, y, e1, e2, e3, e4⟩ => by
    obtain ⟨e, h1, h2⟩ := enumD_get l 0 i d hd
    obtain ⟨v, h3, h4⟩ := (r.mono p).get h1
    have := e4 vs (.inl (p.rd f h))
    rw [h3] at this
    cases this
    subst e1; subst e3; subst h2
    rw [Nat.zero_add]
    exact .tup e2 (.cons (.int _) (.cons h4 .nil))
theorem zipD_get : ∀ (l m : List D) (i : Nat) (d : D), (zipD l m)[i]? = some d → ∃ e f, l[i]? = some e ∧ m[i]? = some f ∧ d = .tup [e, f]
  | [], _, _, _, h => by cases h
  | _ :: _, [], _, _, h => by cases h
  | x :: xs, y :: ys, 0, d, h => by unfold zipD at h; cases h; exact ⟨x, y, rfl, rfl, rfl⟩
  | x :: xs, y :: ys, i + 1, d, h => by
    unfold zipD at h
    rw [List.getElem?_cons_succ] at h
    obtain ⟨e, f, h1, h2, h3⟩ := zipD_get xs ys i d h
    exact ⟨e, f, by rw [List.getElem?_cons_succ]; exact h1, by rw [List.getElem?_cons_succ]; exact h2, h3⟩
theorem zipD_len : ∀ (l m : List D), (zipD l m).length = min l.length m.length
  | [], _ => by simp [zipD]
  | _ :: _, [] => by simp [zipD]
  | x :: xs, y :: ys => by unfold zipD; rw [List.length_cons, zipD_len, List.length_cons, List.length_cons]; omega
theorem walk_zip {K : PySem.W.Frag} {a b : Addr} {vs ws : List V} {l m : List D} {G : Gh} {H : Hp} (f : G.F a) (h : Rd H a (.lst vs)) (r : RVs T K G H vs l) (f2 : G.F b) (h2 : Rd H b (.lst ws)) (r2 : RVs T K G H ws m) : WalkOf T K (Itz K a b) (zipD l m) G H where
  go := fun i hi G' H' p => by
    rw [zipD_len] at hi
    exact ⟨vs, ws, vs[i]'(by rw [r.length]; omega), ws[i]'(by rw [r2.length]; omega), .inl (p.rd f h), .inl (p.rd f2 h2), List.getElem?_eq_getElem _, List.getElem?_eq_getElem _⟩
  stop := fun G' H' p => ⟨vs, ws, .inl (p.rd f h), .inl (p.rd f2 h2), by rw [r.length, r2.length, zipD_len]; omega⟩
  yld := fun i d hd G' H' x H'' p ⟨t, y, z, e1, e2, e3, e4, e5⟩ => by
    obtain ⟨e, g, h5, h6, h7⟩ := zipD_get l m i d hd
    obtain ⟨v, h8, h9⟩ := (r.mono p).get h5
    obtain ⟨w, h10, h11⟩ := (r2.mono p).get h6
    have q1 := e4 vs (.inl (p.rd f h))
    have q2 := e5 ws (.inl (p.rd f2 h2))
    rw [h8] at q1; cases q1
    rw [h10] at q2; cases q2
    subst e1; subst e3; subst h7
    exact .tup e2 (.cons h9 (.cons h11 .nil))
theorem sqItems_kinds {s : S} {r : R} {l : List D} (e : sqItems s r = some l) : (keepR r = some (.lst l) ∧ view s r = some (.ls l)) ∨ (r = .va (.tup l) ∨ r = .va (.ktup l)) ∨ ∃ z, r = .va (.str z) ∧ l = z.cps.toList.map fun c => .str ⟨#[c]⟩ := by
  unfold sqItems at e
  split at e
  · cases e
  · cases e
  · rename_i h1 h2
    cases r with
    | own i => exact absurd rfl (h1 i)
    | fl l' => injection e with e; subst e; exact .inl ⟨rfl, rfl⟩
    | fd t l' => cases e
    | va d =>
      cases d <;> first | (cases e; done) | skip
      case tup l' => injection e with e; subst e; exact .inr (.inl (.inl rfl))
      case ktup l' => injection e with e; subst e; exact .inr (.inl (.inr rfl))
      case lst l' => injection e with e; subst e; exact .inl ⟨rfl, rfl⟩
      case str z => injection e with e; subst e; exact .inr (.inr ⟨z, rfl, rfl⟩)
      case ref i => exact absurd rfl (h2 i)
/-- what a reading of the source makes of an iterator -/
theorem iat_of {K : PySem.W.Frag} {o : Oc R} {f : R → S → Oc (List D)} {G : Gh} {s : S} {σ : St} {H : Hp} {R' : It → Hp → Prop} {Q : VK} (h : IAt T K B W (o.bind f) G s σ H R')
    (k : ∀ r s1 G1 H1 v, Stp σ G s H G1 s1 H1 → Rel T K B G1 s1 σ H1 → RR T K B s H G1 s1 σ H1 v r → IAt T K B W (f r s1) G s σ H R' → Q v H1) : At T K B W (PR T K B) o G s σ H Q := by
  cases o with
  | ok r s1 => exact fun G1 H1 v st R1 r1 => k r s1 G1 H1 v st R1 r1 h
  | ex n fs s1 => exact h
  | bad => exact h
theorem sI_sq {tg : Expr} {e : Expr} {c : S → Oc R} (he : PE X e (tE T X.K B W c)) : PI X tg e (tI T X.K B W fun s => (c s).bind fun r s1 => opt (sqItems s1 r) s1) := by
  refine pi_imp (pi_or (pi_list he) (pi_or (pi_tup he) (pi_str he))) fun σ H R' ⟨G, s, hR, q⟩ => ?_
  dsimp only at q
  cases hc : c s with
  | bad => rw [hc] at q; exact q.elim
  | ex n fs s1 =>
    rw [hc] at q
    refine .inl ⟨G, s, hR, ?_⟩
    rw [hc]
    exact q
  | ok r s1 =>
    rw [hc] at q
    cases hs : sqItems s1 r with
    | none =>
      have q : IAt T X.K B W (opt (sqItems s1 r) s1) G s σ H R' := q
      rw [hs] at q; exact q.elim
    | some l =>
      have q : IAt T X.K B W (opt (sqItems s1 r) s1) G s σ H R' := q
      rw [hs] at q
      rcases sqItems_kinds hs with ⟨hk, _⟩ | hk | ⟨z, hk, hl⟩
      · refine .inl ⟨G, s, hR, ?_⟩
        rw [hc]
        intro G1 H1 v st R1 r1
        obtain ⟨G2, st2, R2, rv⟩ := keep1 R1 st r1 hk
        cases rv with
        | lst f h rs => exact ⟨_, rfl, ⟨_, .inl (.inl h)⟩, q G2 H1 _ st2 R2 (walk_list f (.inl h) rs fun _ _ _ _ => trivial)⟩
      · refine .inr (.inl ⟨G, s, hR, ?_⟩)
        rw [hc]
        intro G1 H1 v st R1 r1
        rcases hk with hk | hk
        · subst hk
          cases r1 with | va rv => cases rv with
            | tup a b => exact ⟨_, rfl, ⟨_, .inl (.inl a)⟩, q G1 H1 _ st R1 (walk_tup (.inl (.inl a)) b)⟩
        · subst hk
          cases r1 with | va rv => cases rv with
            | ktup a b => exact ⟨_, rfl, ⟨_, a _⟩, q G1 H1 _ st R1 (walk_tup (a _) b)⟩
      · refine .inr (.inr ⟨G, s, hR, ?_⟩)
        rw [hc]
        intro G1 H1 v st R1 r1
        subst hk; subst hl
        cases r1 with | va rv => cases rv with
          | str => exact ⟨_, rfl, q G1 H1 _ st R1 walk_str⟩
theorem sI_rng1 {tg : Expr} {a : Expr} {c : S → Oc R} {px p : Pos} (hg : Gl X "range") (hm : X.mg "range" = none) (he : PE X a (tE T X.K B W c)) (hst : starEach [a] X.env = (false, eval a X.env) :: starEach [] X.env) :
    PI X tg (.Call (.Name "range" px) [a] [] p) (tI T X.K B W fun s => (c s).bind fun r s1 => match r with
    | .va (.int j) => if small62 j = true then .ok (rngD 0 j.toNat) s1 else .bad
    | _ => .bad) := pi_imp (pi_range1 hg hm (pa_cons he pa_nil hst) hst) fun σ H R' ⟨G, s, hR, q⟩ => by
  refine ⟨G, s, hR, iat_of q fun r s1 G1 H1 v st R1 r1 q1 => ?_⟩
  split at q1
  · split at q1
    · rename_i j hj
      unfold small62 at hj
      rw [Bool.and_eq_true] at hj
      cases r1 with | va rv => cases rv with
        | int => exact ⟨_, rfl, of_decide_eq_true hj.1, of_decide_eq_true hj.2, q1 G1 H1 _ st R1 walk_rng⟩
    · exact q1.elim
  · exact q1.elim
theorem sI_enu {l : List (Nat × Str × Pos)} {k : Nat} {pt : Pos} {a : Expr} {c : S → Oc R} {px p : Pos} (hg : Gl X "enumerate") (hm : X.mg "enumerate" = none) (he : PE X a (tE T X.K B W c)) (hst : starEach [a] X.env = (false, eval a X.env) :: starEach [] X.env) :
    PI X (.Tuple (upNs l) k pt) (.Call (.Name "enumerate" px) [a] [] p) (tI T X.K B W fun s => (c s).bind fun r s1 => match sqItems s1 r, view s1 r with
    | some l, some (.ls _) => .ok (enumD 0 l) s1
    | _, _ => .bad) := pi_imp (pi_enum hg hm (pa_cons he pa_nil hst) hst) fun σ H R' ⟨G, s, hR, q⟩ => by
  refine ⟨G, s, hR, iat_of q fun r s1 G1 H1 v st R1 r1 q1 => ?_⟩
  split at q1
  · rename_i l0 l1 hs hv
    rcases sqItems_kinds hs with ⟨hk, _⟩ | hk | ⟨z, hk, hl⟩
    · obtain ⟨G2, st2, R2, rv⟩ := keep1 R1 st r1 hk
      cases rv with
      | lst f h rs => exact ⟨_, _, rfl, .inl (.inl h), q1 G2 H1 _ st2 R2 (walk_enum f (.inl h) rs)⟩
    · rcases hk with hk | hk <;> (subst hk; cases hv)
    · subst hk; cases hv
  · exact q1.elim
end
end BB

namespace BB
open PySem PySem.Spec PyProof.Rows L2
theorem wipe_get {σ : St} {j : Nat} : ∀ {vs : List Nat}, j ∉ vs → (wipe σ vs)[j]? = σ[j]?
  | [], _ => rfl
  | v :: vs, h => by
    have h1 : v ≠ j := fun z => h (z ▸ List.mem_cons_self)
    show ((wipe σ vs).set v none)[j]? = _
    rw [List.getElem?_set_ne h1, wipe_get fun z => h (List.mem_cons_of_mem _ z)]
theorem wipe_set {σ : St} {i : Nat} {x : Option V} : ∀ {vs : List Nat}, i ∈ vs → wipe (σ.set i x) vs = wipe σ vs := by
  intro vs h
  apply List.ext_getElem?
  intro j
  by_cases hj : j ∈ vs
  · have key : ∀ (τ : St) (vs : List Nat), j ∈ vs → (wipe τ vs)[j]? = if j < τ.length then some none else none := by
      intro τ vs hv
      induction vs with
      | nil => cases hv
      | cons v vs ih =>
        show ((wipe τ vs).set v none)[j]? = _
        rw [List.getElem?_set]
        by_cases e : v = j
        · rw [if_pos e, wipe_length, e]
        · rw [if_neg e]
          rcases List.mem_cons.mp hv with z | z
          · exact absurd z.symm e
          · exact ih z
    rw [key _ _ hj, key _ _ hj, List.length_set]
  · have hij : i ≠ j := fun z => hj (z ▸ h)
    rw [wipe_get hj, wipe_get hj, List.getElem?_set_ne hij]
theorem wipeE_get {s : S} {j : Nat} : ∀ {vs : List Nat}, (wipeE s vs).env[j]? = if j ∈ vs then (if j < s.env.length then some .no else none) else s.env[j]?
  | [] => by simp [wipeE]
  | v :: vs => by
    have hl : (wipeE s vs).env.length = s.env.length := by
      clear wipeE_get
      induction vs with
      | nil => rfl
      | cons w ws ih => show ((wipeE s ws).env.set w .no).length = _; rw [List.length_set]; exact ih
    show (setE (wipeE s vs) v .no).env[j]? = _
    rw [setE_get, hl, wipeE_get (vs := vs)]
    by_cases e : v = j
    · subst e; simp
    · rw [if_neg e]
      by_cases h : j ∈ vs
      · rw [if_pos h, if_pos (List.mem_cons_of_mem _ h)]
      · rw [if_neg h, if_neg]
        intro z
        rcases List.mem_cons.mp z with z | z
        · exact e z.symm
        · exact h z
section
variable {T : Tab} {K : PySem.W.Frag} {B : Bs} {G : Gh} {s : S} {σ : St} {H : Hp} {vs : List Nat}
/-- the block's own names are not known -/
def Clear (s : S) (vs : List Nat) : Prop := ∀ j ∈ vs, ∀ x, s.env[j]? = some x → x = .no
theorem clear_wipe : Clear (wipeE s vs) vs := fun j hj x e => by
  rw [wipeE_get, if_pos hj] at e
  split at e
  · cases e; rfl
  · cases e
theorem Own.wipe_iff {σ' : St} (hc : Clear s vs) (hw : wipe σ' vs = wipe σ vs) {j : Nat} {a : Addr} (h : Own s σ j a) : Own s σ' j a := by
  obtain ⟨⟨x, e, ho⟩, e2⟩ := h
  have hj : j ∉ vs := fun z => by have := hc j z x e; subst this; cases ho
  refine ⟨⟨x, e, ho⟩, ?_⟩
  rw [← wipe_get hj, hw, wipe_get hj]
  exact e2
theorem Rel.wiped {σ' : St} (hR : Rel T K B G s σ H) (hc : Clear s vs) (hw : wipe σ' vs = wipe σ vs) : Rel T K B G s σ' H := by
  have hl : σ'.length = σ.length := by have := congrArg List.length hw; rw [wipe_length, wipe_length] at this; exact this
  refine ⟨hR.len.trans hl.symm, fun j x e => ?_, fun a ⟨j, h⟩ => hR.own1 a ⟨j, h.wipe_iff hc hw.symm⟩, fun i j a h1 h2 => hR.own2 i j a (h1.wipe_iff hc hw.symm) (h2.wipe_iff hc hw.symm), hR.c, hR.b⟩
  by_cases hj : j ∈ vs
  · have := hc j hj x e; subst this; exact .no _
  · have : σ'[j]? = σ[j]? := by rw [← wipe_get hj, hw, wipe_get hj]
    rw [this]
    exact hR.sl j x e
theorem wipe_wipe : wipe (wipe σ vs) vs = wipe σ vs := by
  have : ∀ ws : List Nat, (∀ w ∈ ws, w ∈ vs) → wipe (wipe σ ws) vs = wipe σ vs := by
    intro ws
    induction ws with
    | nil => intro _; rfl
    | cons w ws ih =>
      intro h
      show wipe ((wipe σ ws).set w none) vs = _
      rw [wipe_set (h w List.mem_cons_self), ih fun x hx => h x (List.mem_cons_of_mem _ hx)]
  exact this vs fun _ h => h
/-- the target's slots -/
def tgIx : Tg → List Nat
  | .nm i _ _ => [i]
  | .tp l _ _ => l.map (·.1)
theorem bindN_own : ∀ {l : List (Nat × Str × Pos)} {ds : List D} {s s2 : S}, bindN l ds s = some s2 → ∀ (j : Nat) (x : BB.Slot), s2.env[j]? = some x → isOwn x = true → s.env[j]? = some x
  | [], [], _, _, e, j, x, h, ho => by cases e; exact h
  | [], _ :: _, _, _, e, _, _, _, _ => by cases e
  | _ :: _, [], _, _, e, _, _, _, _ => by cases e
  | (i, y, p) :: r, d :: ds, s, s2, e, j, x, h, ho => by
    have e : bindN r ds (setE s i (.va d)) = some s2 := e
    have := bindN_own e j x h ho
    rw [setE_get] at this
    split at this
    · split at this
      · cases this; cases ho
      · cases this
    · exact this
theorem bindT_own {tg : Tg} {d : D} {s s2 : S} (e : bindT tg d s = some s2) {j : Nat} {x : BB.Slot} (h : s2.env[j]? = some x) (ho : isOwn x = true) : s.env[j]? = some x := by
  cases tg with
  | nm i y p =>
    cases e
    rw [setE_get] at h
    split at h
    · split at h
      · cases h; cases ho
      · cases h
    · exact h
  | tp l k p =>
    cases d <;> first | (cases e; done) | exact bindN_own e j x h ho
theorem tgs_ok2 {Q : St → Hp → Prop} : ∀ {l : List (Nat × Str × Pos)} {ds : List D} {ws : List V} {s s2 : S} {σ : St}, bindN l ds s = some s2 → RVs T K G H ws ds → Rel T K B G s σ H → (∀ i ∈ l.map (·.1), i ∈ vs) → (∀ σ', wipe σ' vs = wipe σ vs → Rel T K B G s2 σ' H → Q σ' H) → tgs l ws σ H Q
  | [], [], _, _, _, _, e, .nil, hR, _, q => by cases e; exact ⟨rfl, q _ rfl hR⟩
  | [], _ :: _, _, _, _, _, e, _, _, _, _ => by cases e
  | _ :: _, [], _, _, _, _, e, _, _, _, _ => by cases e
  | (i, x, p) :: r, d :: ds, _, s, s2, σ, e, .cons rv t, hR, hi, q => by
    have e : bindN r ds (setE s i (.va d)) = some s2 := e
    have h1 : i ∈ vs := hi i (by simp)
    exact ⟨_, _, rfl, tgs_ok2 e t (hR.stored (.va rv) fun z => by cases z) (fun j hj => hi j (by rw [List.map_cons]; exact List.mem_cons_of_mem _ hj)) fun σ' hw R => q σ' (hw.trans (wipe_set h1)) R⟩
theorem tg_ok2 {tg : Tg} {d : D} {v : V} {s2 : S} {Q : St → Hp → Prop} (e : bindT tg d s = some s2) (rv : RV T K G H v d) (hR : Rel T K B G s σ H) (hi : ∀ i ∈ tgIx tg, i ∈ vs) (q : ∀ σ', wipe σ' vs = wipe σ vs → Rel T K B G s2 σ' H → Q σ' H) : tTg T K tg v σ H Q := by
  cases tg with
  | nm i x p => cases e; exact q _ (wipe_set (hi i (by simp [tgIx]))) (hR.stored (.va rv) fun z => by cases z)
  | tp l k p =>
    cases d <;> first | (cases e; done) | skip
    case tup ds =>
      cases rv with
      | tup a b => exact ⟨_, _, rfl, .inl (.inl a), by rw [b.length, bindN_len (show bindN l ds s = some s2 from e)], tgs_ok2 e b hR hi q⟩
/-- a turn's step, told over the frame ahead of it -/
theorem turn_stp {σ2 : St} {G3 : Gh} {s2 s3 : S} {H3 : Hp} (hc : Clear s vs) (hw : wipe σ2 vs = wipe σ vs) (hb : ∀ (j : Nat) (x : BB.Slot), s2.env[j]? = some x → isOwn x = true → s.env[j]? = some x) (st : Stp σ2 G s2 H G3 s3 H3) : Stp σ G s H G3 (wipeE s3 vs) H3 := by
  have b : ∀ a, OwnA s2 σ2 a → OwnA s σ a := fun a ⟨j, ⟨x, e, ho⟩, e2⟩ => ⟨j, Own.wipe_iff (σ := σ2) hc hw.symm ⟨⟨x, hb j x e ho, ho⟩, e2⟩⟩
  have c : ∀ a, OwnA (wipeE s3 vs) σ a → OwnA s3 σ2 a := fun a ⟨j, ⟨x, e, ho⟩, e2⟩ => by
    rw [wipeE_get] at e
    split at e
    · split at e
      · cases e; cases ho
      · cases e
    · rename_i hj
      refine ⟨j, ⟨x, e, ho⟩, ?_⟩
      rw [← wipe_get hj, hw, wipe_get hj]
      exact e2
  exact ⟨st.p, fun a u h n no => st.keep a u h n fun z => no (b a z), st.dom, fun a h n => (st.nio a h n).imp id (b a), fun a h n => (st.nF a h n).imp id (b a), fun a h => b a (st.ow a (c a h))⟩
theorem Rel.wipeE {σ : St} : ∀ {vs : List Nat} {s : S}, Rel T K B G s σ H → Rel T K B G (wipeE s vs) σ H
  | [], _, h => h
  | v :: vs, s, h => (Rel.wipeE (vs := vs) h).setSlot rfl (.no _)
theorem Stp.wipeE : ∀ {vs : List Nat} {s : S}, Stp σ G s H G (wipeE s vs) H
  | [], _ => .refl _ _ _ _
  | v :: vs, s => (Stp.wipeE (vs := vs)).trans (.setSlot rfl)
end
section
variable {T : Tab} {B : Bs} {W : WX} {X : Cx}
abbrev W0 : WX := fun _ _ _ _ => False
/-- one turn of a comprehension -/
def lcTurn (tg : Tg) (ci : S → Oc Bool) (ce : S → Oc R) (vs : List Nat) (d : D) (s : S) : Oc (Option D) := match bindT tg d s with
  | none => .bad
  | some s1 => (ci s1).bind fun t s2 => if t = true then (ce s2).bind fun r s3 => (match keepR r with
      | some y => .ok (some y) (BB.wipeE s3 vs)
      | none => .bad) else .ok none (BB.wipeE s2 vs)
theorem sE_lc {elt it : Expr} {ifs : List Expr} {tg : Tg} {scope : Scope} {own : List (Str × Nat)} {p : Pos} {c : S → Oc (List D)} {ci : S → Oc Bool} {ce : S → Oc R} (hc : X.calm = true) (hN : X.N.Nodup) (hi : PI X tg.up it (tI T X.K B W c)) (ok : BlkOk X.N X.env.scope scope own)
    (hg : ∀ (s : Shared) (H : Hp) (C : Addr) (cl : List (Str × Addr)) (fp : List Addr), TgOk (X.blk s H scope (compEnvC scope cl C X.env) fp) tg) (hx : ∀ i ∈ tgIx tg, i ∈ own.map (·.2))
    (ht : ∀ (s : Shared) (H : Hp) (C : Addr) (cl : List (Str × Addr)) (fp : List Addr), PTs (X.blk s H scope (compEnvC scope cl C X.env) fp) ifs (tT T X.K B W0 ci))
    (he : ∀ (s : Shared) (H : Hp) (C : Addr) (cl : List (Str × Addr)) (fp : List Addr), PE (X.blk s H scope (compEnvC scope cl C X.env) fp) elt (tE T X.K B W0 ce)) (hs : ∀ x, foldedSetIterable it X.env x = pure x)
    (σ : St) (H : Hp) (Q : VK) (q : (tE T X.K B W fun s => (c s).bind fun l s1 => (lcTurns (lcTurn tg ci ce (own.map (·.2))) l [] (BB.wipeE s1 (own.map (·.2)))).bind fun ys s2 => .ok (.fl ys) s2) σ H Q) :
    tLc (tI T X.K B W c) (tTg T X.K tg) (tT T X.K B W0 ci) (tE T X.K B W0 ce) (own.map (·.2)) σ H Q := by
  obtain ⟨G, s, hR, q⟩ := q
  refine ⟨G, s, hR, ?_⟩
  generalize hvs : own.map (·.2) = vs at *
  revert q
  dsimp only
  cases c s with
  | bad => exact fun q => q
  | ex n fs s1 => exact fun q => q
  | ok l s1 =>
    intro q G1 H1 J st R1 w D hD
    have q : At T X.K B W (PR T X.K B) ((lcTurns (lcTurn tg ci ce vs) l [] (BB.wipeE s1 vs)).bind fun ys s2 => .ok (.fl ys) s2) G s σ H Q := q
    have RD := hR
    -- the list laid
    have R1w : Rel T X.K B G1 (BB.wipeE s1 vs) σ H1 := R1.wipeE
    have S1w : Stp σ G s H G1 (BB.wipeE s1 vs) H1 := st.trans .wipeE
    have R2 : Rel T X.K B G1 (BB.wipeE s1 vs) σ (upd H1 D (.lst [])) := R1w.laid hD
    have S2 : Stp σ G s H G1 (BB.wipeE s1 vs) (upd H1 D (.lst [])) := S1w.trans (.laid R1w hD)
    have F2 : Fresh B s H G1 (BB.wipeE s1 vs) σ (upd H1 D (.lst [])) D := (R1w.fresh hD).back S1w
    refine ⟨fun i m H' => m + i = l.length ∧ ∃ G' s' acc av, Rel T X.K B G' s' σ H' ∧ Clear s' vs ∧ Stp σ G s H G' s' H' ∧ Fresh B s H G' s' σ H' D ∧ H' D = some (.lst av) ∧ RVs T X.K G' H' av acc ∧ Pers G1 H1 G' H' ∧
      At T X.K B W (PR T X.K B) ((lcTurns (lcTurn tg ci ce vs) (l.drop i) acc s').bind fun ys s2 => .ok (.fl ys) s2) G s σ H Q,
      ⟨l.length, rfl, G1, BB.wipeE s1 vs, [], [], R2, clear_wipe, S2, F2, upd_same, .nil, pers_upd hD R1.c, q⟩, ?_⟩
    rintro i m H' ⟨hm, G', s', acc, av, R', C', S', F', eD, rD, P', q'⟩
    by_cases hil : i < l.length
    · right
      refine ⟨w.go i hil G' H' P', fun H'' => ∃ G' s' acc av, Rel T X.K B G' s' σ H'' ∧ Clear s' vs ∧ Stp σ G s H G' s' H'' ∧ Fresh B s H G' s' σ H'' D ∧ H'' D = some (.lst av) ∧ RVs T X.K G' H'' av acc ∧ Pers G1 H1 G' H'' ∧
        At T X.K B W (PR T X.K B) ((lcTurns (lcTurn tg ci ce vs) (l.drop (i + 1)) acc s').bind fun ys s2 => .ok (.fl ys) s2) G s σ H Q, fun H'' h => ⟨m - 1, by omega, by omega, h⟩, fun x H3 hy => ?_⟩
      have n := w.yld i _ (List.getElem?_eq_getElem hil) G' H' x H3 P' hy
      obtain ⟨st3, R3, r3⟩ := new_ok R' n
      rw [List.drop_eq_getElem_cons hil] at q'
      unfold lcTurns at q'
      have F3 := F'.mono eD st3
      cases r3 with
      | va rv =>
      cases e : bindT tg l[i] s' with
      | none =>
        have : lcTurn tg ci ce vs l[i] s' = .bad := by unfold lcTurn; rw [e]
        rw [this] at q'
        exact q'.elim
      | some s4 =>
        have Rw : Rel T X.K B G' s' (wipe σ vs) H3 := R3.wiped C' wipe_wipe
        refine tg_ok2 e rv Rw hx fun σ2 hw R4 => ⟨hw.trans wipe_wipe, G', s4, R4, ?_⟩
        have hw2 : wipe σ2 vs = wipe σ vs := hw.trans wipe_wipe
        have eT : lcTurn tg ci ce vs l[i] s' = (ci s4).bind fun t s2 => if t = true then (ce s2).bind fun r s3 => (match keepR r with
            | some y => .ok (some y) (BB.wipeE s3 vs)
            | none => .bad) else .ok none (BB.wipeE s2 vs) := by unfold lcTurn; rw [e]
        rw [eT] at q'
        cases hci : ci s4 with
        | bad => rw [hci] at q'; exact q'.elim
        | ex n fs s5 => rw [hci] at q'; exact q'.elim
        | ok t s5 =>
          rw [hci] at q'
          intro G5 H5 b st5 R5 eb
          cases (show b = t from eb)
          cases t with
          | false =>
            rw [if_neg Bool.false_ne_true]
            have S5 : Stp σ G' s' H3 G5 (BB.wipeE s5 vs) H5 := turn_stp C' hw2 (fun j x => bindT_own e) st5
            have S6 := st3.trans S5
            obtain ⟨F5, e5⟩ := F'.mono eD S6
            exact ⟨G5, BB.wipeE s5 vs, acc, av, R5.wipeE.wiped clear_wipe hw2.symm, clear_wipe, S'.trans S6, F5, e5, rD.mono S6.p, P'.trans S6.p, q'⟩
          | true =>
            rw [if_pos rfl]
            refine ⟨G5, s5, R5, ?_⟩
            have q' : At T X.K B W (PR T X.K B) ((match ((ce s5).bind fun r s3 => (match keepR r with
              | some y => Oc.ok (some y) (BB.wipeE s3 vs)
              | none => .bad)) with
              | .ok none s1 => lcTurns (lcTurn tg ci ce vs) (l.drop (i + 1)) acc s1
              | .ok (some y) s1 => if acc.length < sizeLine then lcTurns (lcTurn tg ci ce vs) (l.drop (i + 1)) (acc ++ [y]) s1 else .bad
              | _ => .bad).bind fun ys s2 => .ok (.fl ys) s2) G s σ H Q := q'
            cases hce : ce s5 with
            | bad => rw [hce] at q'; exact q'.elim
            | ex n fs s6 => rw [hce] at q'; exact q'.elim
            | ok r s6 =>
              rw [hce] at q'
              intro G6 H6 y st6 R6 r6
              have q' : At T X.K B W (PR T X.K B) ((match (match keepR r with
                | some y => Oc.ok (some y) (BB.wipeE s6 vs)
                | none => .bad) with
                | .ok none s1 => lcTurns (lcTurn tg ci ce vs) (l.drop (i + 1)) acc s1
                | .ok (some y) s1 => if acc.length < sizeLine then lcTurns (lcTurn tg ci ce vs) (l.drop (i + 1)) (acc ++ [y]) s1 else .bad
                | _ => .bad).bind fun ys s2 => .ok (.fl ys) s2) G s σ H Q := q'
              cases hk : keepR r with
              | none => rw [hk] at q'; exact q'.elim
              | some dy =>
                rw [hk] at q'
                dsimp only at q'
                split at q'
                · rename_i hz
                  obtain ⟨G7, st7, R7, rv7⟩ := keep1 R6 st6 r6 hk
                  have S5 : Stp σ G' s' H3 G7 (BB.wipeE s6 vs) H6 := turn_stp C' hw2 (fun j x => bindT_own e) (st5.trans st7)
                  have S6 := st3.trans S5
                  obtain ⟨F5, e5⟩ := F'.mono eD S6
                  have RR7 : Rel T X.K B G7 (BB.wipeE s6 vs) σ H6 := R7.wipeE.wiped clear_wipe hw2.symm
                  have rD7 := rD.mono S6.p
                  have PW := pers_wr (o' := .lst (av ++ [y])) F5 e5 trivial
                  refine ⟨av, e5, by rw [rD.length]; exact hz, G7, BB.wipeE s6 vs, acc ++ [dy], av ++ [y], RR7.wr F5 e5 trivial, clear_wipe, (S'.trans S6).wr F5 e5 trivial, F5.wr, upd_same, (rD7.mono PW).append (.cons (rv7.mono PW) .nil), (P'.trans S6.p).trans PW, q'⟩
                · exact q'.elim
    · left
      have e : i = l.length := by omega
      subst e
      rw [List.drop_length] at q'
      exact ⟨w.stop G' H' P', q' G' H' _ S' R' (.fl eD rD F')⟩
end
end BB

namespace BB
open PySem PySem.Spec PyProof.Rows L2
/-! boxes written -/
section
variable {T : Tab} {K : PySem.W.Frag} {B : Bs} {G : Gh} {s : S} {σ : St} {H : Hp}
theorem mut_ne {a c : Addr} {o u : HO} (e : H a = some o) (mu : Mut (some o)) (h : H c = some u) (nm : ¬ Mut (some u)) : c ≠ a := fun z => by
  subst z
  rw [e] at h
  cases h
  exact nm mu
theorem box_pers {i : Nat} {a : Addr} {o o' : HO} (hR : RelC T K G s.st H) (hi : G.io[i]? = some a) (e : H a = some o) (mu : Mut (some o)) : Pers G H G (upd H a o') :=
  ⟨fun _ _ h => h, fun _ h => h, fun c h => upd_ne fun z => hR.ioF a (List.mem_of_getElem? hi) (z ▸ h), fun c xs h => by rw [upd_ne (mut_ne e mu h (fun z => z))]; exact h, fun c u v h => by rw [upd_ne (mut_ne e mu h (fun z => z))]; exact h, fun c u h => by rw [upd_ne (mut_ne e mu h (fun z => z))]; exact h⟩
theorem nd_at {l : List Addr} (h : l.Nodup) {i j : Nat} {a : Addr} (hi : l[i]? = some a) (hj : l[j]? = some a) : i = j := by
  obtain ⟨hi1, hi2⟩ := List.getElem?_eq_some_iff.mp hi
  obtain ⟨hj1, hj2⟩ := List.getElem?_eq_some_iff.mp hj
  have pw := List.pairwise_iff_getElem.mp h
  rcases Nat.lt_trichotomy i j with q | q | q
  · exact absurd (hi2.trans hj2.symm) (pw i j hi1 hj1 q)
  · exact q
  · exact absurd (hj2.trans hi2.symm) (pw j i hj1 hi1 q)
theorem Rel.boxw {i : Nat} {a : Addr} {o o' : HO} {b' : Bx} (hR : Rel T K B G s σ H) (hi : G.io[i]? = some a) (e : H a = some o) (mu : Mut (some o)) (hb : Pers G H G (upd H a o') → BxR T K G (upd H a o') a b') :
    Rel T K B G (setB s i b') σ (upd H a o') := by
  have P : Pers G H G (upd H a o') := box_pers hR.c hi e mu
  have hm : a ∈ G.io := List.mem_of_getElem? hi
  refine ⟨hR.len, fun j x e1 => (hR.sl j x e1).mono P fun c u e2 ho e3 => ?_, hR.own1, hR.own2, ⟨?_, fun j x c e1 e2 => ?_, hR.c.nd, hR.c.ioF, fun c h z => ?_⟩, ⟨hR.b.p.trans P, fun c u e1 n => ?_, fun c e1 z => ?_, hR.b.nio, hR.b.nF⟩⟩
  · rw [upd_ne]; exact e3
    rintro rfl
    exact (hR.own1 c ⟨j, ⟨x, e1, ho⟩, e2⟩).2.1 hm
  · show (s.st.set i b').length = _
    rw [List.length_set]; exact hR.c.len
  · have e1 : (s.st.set i b')[j]? = some x := e1
    by_cases hij : i = j
    · subst hij
      rw [hi] at e2; cases e2
      have hl : i < s.st.length := by
        have := (List.getElem?_eq_some_iff.mp e1).1
        rw [List.length_set] at this; exact this
      rw [List.getElem?_set_self hl] at e1
      cases e1
      exact hb P
    · rw [List.getElem?_set_ne hij] at e1
      refine (hR.c.bx j x c e1 e2).mono P fun u q => ?_
      rw [upd_ne]; exact q
      rintro rfl
      exact hij (nd_at hR.c.nd hi e2)
  · rw [upd_ne (by rintro rfl; exact hR.c.ioF c hm h)] at z
    exact hR.c.Fd c h z
  · rw [upd_ne]; exact hR.b.keep c u e1 n
    rintro rfl
    rw [hR.b.nio c hm n] at e1; cases e1
  · by_cases h : c = a
    · subst h; rw [upd_same] at z; cases z
    · rw [upd_ne h] at z
      exact hR.b.dom c e1 z
theorem Stp.boxw {i : Nat} {a : Addr} {o o' : HO} {b' : Bx} (hR : Rel T K B G s σ H) (hi : G.io[i]? = some a) (e : H a = some o) (mu : Mut (some o)) : Stp σ G s H G (setB s i b') (upd H a o') :=
  ⟨box_pers hR.c hi e mu, fun c u h n _ => by rw [upd_ne (by rintro rfl; exact n (List.mem_of_getElem? hi))]; exact h, fun c h z => by
    by_cases q : c = a
    · subst q; rw [upd_same] at z; cases z
    · rw [upd_ne q] at z; exact h z, fun _ h n => absurd h n, fun _ h n => absurd h n, fun _ h => h⟩
/-- an own thing is written -/
theorem Rel.ownw {i : Nat} {a : Addr} {x x' : Slot} {o o' : HO} (hR : Rel T K B G s σ H) (e : s.env[i]? = some x) (ho : isOwn x = true) (es : σ[i]? = some (some (.ref a))) (eH : H a = some o) (mu : Mut (some o))
    (r : Pers G H G (upd H a o') → SlotR T K G (upd H a o') (some (some (.ref a))) x') :
    Rel T K B G (setE s i x') σ (upd H a o') ∧ Pers G H G (upd H a o') ∧ Stp σ G s H G (setE s i x') (upd H a o') := by
  have ow : Own s σ i a := ⟨⟨x, e, ho⟩, es⟩
  have o1 := hR.own1 a ⟨i, ow⟩
  have P : Pers G H G (upd H a o') := ⟨fun _ _ h => h, fun _ h => h, fun b h => upd_ne (fun z => o1.1 (z ▸ h)), fun c xs h => by rw [upd_ne (mut_ne eH mu h (fun z => z))]; exact h, fun c u v h => by rw [upd_ne (mut_ne eH mu h (fun z => z))]; exact h, fun c u h => by rw [upd_ne (mut_ne eH mu h (fun z => z))]; exact h⟩
  have sub : ∀ {j : Nat} {b : Addr}, Own (setE s i x') σ j b → Own s σ j b := fun {j b} h => by
    obtain ⟨⟨y, e3, hy⟩, e4⟩ := h
    rw [setE_get] at e3
    split at e3
    · rename_i hij; subst hij; exact ⟨⟨_, e, ho⟩, e4⟩
    · exact ⟨⟨y, e3, hy⟩, e4⟩
  refine ⟨⟨by show (s.env.set i _).length = _; rw [List.length_set]; exact hR.len, fun j y e3 => ?_, fun b ⟨j, h⟩ => hR.own1 b ⟨j, sub h⟩, fun j m b h1 h2 => hR.own2 j m b (sub h1) (sub h2), ⟨hR.c.len, fun j u b e3 e4 => (hR.c.bx j u b e3 e4).mono P fun u q => ?_, hR.c.nd, hR.c.ioF, fun b h z => ?_⟩, ⟨hR.b.p.trans P, fun b u e3 n => ?_, fun b e3 z => ?_, hR.b.nio, hR.b.nF⟩⟩, P,
    ⟨P, fun c u h n no => by rw [upd_ne (by rintro rfl; exact no ⟨i, ow⟩)]; exact h, fun c h z => ?_, fun _ h n => absurd h n, fun _ h n => absurd h n, fun b ⟨j, h⟩ => ⟨j, sub h⟩⟩⟩
  · rw [setE_get] at e3
    split at e3
    · rename_i hij; subst hij
      split at e3
      · injection e3 with e3; subst e3
        rw [es]
        exact r P
      · cases e3
    · rename_i hij
      refine (hR.sl j y e3).mono P fun b u e4 hy e5 => ?_
      rw [upd_ne]; exact e5
      rintro rfl
      exact hij (hR.own2 i j b ow ⟨⟨y, e3, hy⟩, e4⟩)
  · rw [upd_ne]; exact q
    rintro rfl
    exact o1.2.1 (List.mem_of_getElem? e4)
  · by_cases hb : b = a
    · subst hb; exact o1.1 h
    · rw [upd_ne hb] at z; exact hR.c.Fd b h z
  · rw [upd_ne]; exact hR.b.keep b u e3 n
    rintro rfl
    rw [o1.2.2] at e3; cases e3
  · by_cases hb : b = a
    · subst hb; exact e3 o1.2.2
    · rw [upd_ne hb] at z; exact hR.b.dom b e3 z
  · by_cases q : c = a
    · subst q; rw [upd_same] at z; cases z
    · rw [upd_ne q] at z; exact h z
/-- what stands at a list or dict of its own -/
def bxHO (H : Hp) (a : Addr) : Prop := ∃ o, H a = some o ∧ Mut (some o)
theorem BxR.mut {a : Addr} {b : Bx} (h : BxR T K G H a b) (hl : ∀ l, b ≠ .lkl l) (hd : ∀ t l, b ≠ .lkd t l) : ∃ o, H a = some o ∧ Mut (some o) := by
  cases h with
  | ls e _ => exact ⟨_, e, trivial⟩
  | dcK e _ => exact ⟨_, e, trivial⟩
  | dcT e _ => exact ⟨_, e, trivial⟩
  | ins e _ => exact ⟨_, e, trivial⟩
  | lkl => exact absurd rfl (hl _)
  | lkK => exact absurd rfl (hd _ _)
  | lkT => exact absurd rfl (hd _ _)
theorem sl2b_bx {a : Addr} {x : Slot} {b : Bx} (h : SlotR T K G H (some (some (.ref a))) x) (e : sl2b x = some b) : BxR T K G H a b ∧ isOwn x = true := by
  cases h <;> first | (cases e; done) | skip
  · injection e with e; subst e; exact ⟨.ls (by assumption) (by assumption), rfl⟩
  · injection e with e; subst e; exact ⟨.dcK (by assumption) (by assumption), rfl⟩
  · injection e with e; subst e; exact ⟨.dcT (by assumption) (by assumption), rfl⟩
theorem b2sl_sl {a : Addr} {x : Slot} {b : Bx} (h : BxR T K G H a b) (e : b2sl b = some x) : SlotR T K G H (some (some (.ref a))) x := by
  cases h <;> first | (cases e; done) | skip
  · injection e with e; subst e; exact .ol (by assumption) (by assumption)
  · injection e with e; subst e; exact .odK (by assumption) (by assumption)
  · injection e with e; subst e; exact .odT (by assumption) (by assumption)
/-- a list or dict of its own becomes another -/
theorem chg_ok {f : Bx → Option Bx} {x : R} {s0 s' : S} {H0 : Hp} {v : V} (hR : Rel T K B G s σ H) (r : RR T K B s0 H0 G s σ H v x) (e : chg f x s = some s') (hlk : ∀ l, f (.lkl l) = none) (hlk2 : ∀ t l, f (.lkd t l) = none) :
    ∃ a b b' o, v = .ref a ∧ f b = some b' ∧ BxR T K G H a b ∧ H a = some o ∧ Mut (some o) ∧ ∀ o', (Pers G H G (upd H a o') → BxR T K G (upd H a o') a b') → Rel T K B G s' σ (upd H a o') ∧ Pers G H G (upd H a o') ∧ Stp σ G s H G s' (upd H a o') := by
  unfold chg at e
  split at e
  · rename_i i
    split at e
    · rename_i b hb
      cases hf : f b with
      | none => rw [hf] at e; cases e
      | some b' =>
        rw [hf] at e; injection e with e; subst e
        cases r with | va q => cases q with | @ref _ a hi =>
          have bx := hR.c.bx _ _ _ hb hi
          obtain ⟨o, e1, mu⟩ := bx.mut (fun l z => by subst z; rw [hlk] at hf; cases hf) (fun t l z => by subst z; rw [hlk2] at hf; cases hf)
          exact ⟨a, b, b', o, rfl, hf, bx, e1, mu, fun o' k => ⟨hR.boxw hi e1 mu k, box_pers hR.c hi e1 mu, Stp.boxw hR hi e1 mu⟩⟩
    · cases e
  · rename_i i
    split at e
    · rename_i y hy
      split at e
      · rename_i b hb
        split at e
        · rename_i b' hf
          cases hs : b2sl b' with
          | none => rw [hs] at e; cases e
          | some y' =>
            rw [hs] at e; injection e with e; subst e
            cases r with | own es =>
              have z := hR.sl _ _ hy
              rw [es] at z
              obtain ⟨a, rfl⟩ : ∃ a, v = .ref a := by
                cases z <;> first | (cases hb; done) | exact ⟨_, rfl⟩
              obtain ⟨bx, ho⟩ := sl2b_bx z hb
              obtain ⟨o, e1, mu⟩ := bx.mut (fun l z => by subst z; rw [hlk] at hf; cases hf) (fun t l z => by subst z; rw [hlk2] at hf; cases hf)
              exact ⟨a, b, b', o, rfl, hf, bx, e1, mu, fun o' k => hR.ownw hy ho es e1 mu fun P => b2sl_sl (k P) hs⟩
        · cases e
      · cases e
    · cases e
  · cases e
theorem isL_ok {x : R} {s0 : S} {H0 : Hp} {v : V} (hR : Rel T K B G s σ H) (r : RR T K B s0 H0 G s σ H v x) (e : isL x s = true) : ∃ a vs, v = .ref a ∧ H a = some (.lst vs) := by
  unfold isL at e
  split at e
  · rename_i i
    split at e
    · rename_i l hl
      cases r with | va q => cases q with | @ref _ a hi =>
        cases hR.c.bx _ _ _ hl hi with
        | ls e1 _ => exact ⟨a, _, rfl, e1⟩
    · cases e
  · rename_i i
    split at e
    · rename_i l hl
      cases r with | own es =>
        have z := hR.sl _ _ hl
        rw [es] at z
        cases z with | ol e1 _ => exact ⟨_, _, rfl, e1⟩
    · cases e
  · cases e
end
section
variable {T : Tab} {B : Bs} {W : WX} {X : Cx} {PG : Prog} {k : Nat}
/-- C(..): an instance is made -/
theorem new_at {c n : Nat} {rs : List R} {vs : List V} {ds : List D} {G0 G : Gh} {s0 s : S} {σ : St} {H0 H : Hp} {Q : VK} (hR : Rel T X.K B G s σ H) (p0 : Stp σ G0 s0 H0 G s H) (rv : RVs T X.K G H vs ds) (hk : keepRs rs = some ds) (hn : PG.ini c = some n) (hf : ∃ f, PG.fns[n]? = some f)
    (q : At T X.K B W (PR T X.K B) (newR PG (cal PG k) c rs s) G0 s0 σ H0 Q) (x dx : Addr) (hx : H x = none) (hdx : H dx = none) (ne : dx ≠ x) :
    spF T X.K PG k n (.ref x :: vs) (upd (upd H dx (.own x)) x (.ins (T.o c) dx [])) (fun v H2 => v = .non ∧ Q (.ref x) H2) (WE W σ) := by
  unfold newR at q
  rw [hk, hn] at q
  dsimp only at q
  let H1 := upd (upd H dx (.own x)) x (.ins (T.o c) dx [])
  have k1 : ∀ a u, H a = some u → H1 a = some u := fun a u e => by
    show upd (upd H dx (.own x)) x _ a = _
    rw [upd_ne (ne_of_none e hx), upd_ne (ne_of_none e hdx)]; exact e
  have P : Pers G H ⟨G.io ++ [x], G.F⟩ H1 := by
    refine ⟨fun i c h => ?_, fun _ h => h, fun a h => ?_, fun a xs h => k1 _ _ h, fun a o u h => k1 _ _ h, fun a fs h => k1 _ _ h⟩
    · show (G.io ++ [x])[i]? = _
      rw [List.getElem?_append_left (List.getElem?_eq_some_iff.mp h).1]; exact h
    · cases e : H a with
      | none => exact absurd e (hR.c.Fd a h)
      | some u => exact k1 a u e
  have nio : x ∉ G.io := fun z => by obtain ⟨u, e⟩ := hR.c.ioThere z; rw [hx] at e; cases e
  have nF : ¬ G.F x := fun z => hR.c.Fd x z hx
  have dom1 : ∀ a, H a ≠ none → H1 a ≠ none := fun a h => by
    cases e : H a with
    | none => exact absurd e h
    | some u => rw [k1 a u e]; simp
  have C1 : RelC T X.K ⟨G.io ++ [x], G.F⟩ (s.st ++ [.ins c []]) H1 := hR.c.more P (fun _ _ a u _ _ e => k1 a u e) nio nF dom1 (.ins upd_same .nil)
  have X1 : Ext G H ⟨G.io ++ [x], G.F⟩ H1 := ⟨P, fun a u e _ => k1 a u e, dom1, fun a h n => by
    rcases List.mem_append.mp h with h | h
    · exact absurd h n
    · have : a = x := by simpa using h
      subst this; exact hx, fun _ h n => absurd h n⟩
  have hR1 : Rel T X.K B ⟨G.io ++ [x], G.F⟩ ⟨s.env, s.st ++ [.ins c []]⟩ σ H1 := hR.called X1 C1
  have S1 : Stp σ G0 s0 H0 ⟨G.io ++ [x], G.F⟩ ⟨s.env, s.st ++ [.ins c []]⟩ H1 := p0.trans (.called X1)
  have hix : (G.io ++ [x])[s.st.length]? = some x := by
    rw [hR.c.len, List.getElem?_append_right (Nat.le_refl _), Nat.sub_self]; rfl
  have hlen : ∃ f, PG.fns[n]? = some f ∧ (D.ref s.st.length :: ds).length = f.ps := by
    cases k with
    | zero => exact q.elim
    | succ k =>
      obtain ⟨f, hf⟩ := hf
      refine ⟨f, hf, ?_⟩
      unfold cal at q
      rw [hf] at q
      dsimp only at q
      by_cases hl : (D.ref s.st.length :: ds).length = f.ps
      · exact hl
      · rw [if_neg hl] at q; exact q.elim
  refine ⟨⟨G.io ++ [x], G.F⟩, .ref s.st.length :: ds, s.st ++ [.ins c []], C1, .cons (.ref hix) (rv.mono P), hlen, ?_⟩
  revert q
  cases cal PG k n (.ref s.st.length :: ds) (s.st ++ [.ins c []]) with
  | ok r st' =>
    cases r with
    | va d =>
      cases d with
      | non =>
        intro q G' H' v x' c' r'
        cases r' with | va r' =>
        cases r'
        exact ⟨rfl, q G' H' _ (S1.trans (.called x')) (hR1.called x' c') (.va (.ref (x'.p.io _ _ hix)))⟩
      | _ => exact fun q => q.elim
    | _ => exact fun q => q.elim
  | ex c' fs st' => exact fun q G' H' cls d x' c r => q G' H' cls d (S1.p.trans x'.p) (hR1.called x' c) r
  | bad => exact fun q => q
theorem run_makeS {CX : CXT} {C f : Addr} {k : Nat} {fd : FuncData} {ps : List Str} {sp : Sp} {E : St → XK} {pins : List (Addr × Obj)} {σ : St} {H : Hp} {s : Shared} {Q : VK} {us : List Value} {vs : List V} (M : Mk X.K C f) (F : FnOk X.prog X.w X.K X.mg X.base CX k f fd ps sp) (hr : Room (k + 1) X.A) (hb : Binds X.K fd ps [])
    (hx : PassesAt CX X σ (E σ)) (I : Inv X pins σ H s) (r : Vals vs us)
    (h : ∀ x dx, H x = none → H dx = none → dx ≠ x → sp (.ref x :: vs) (upd (upd H dx (.own x)) x (.ins C dx [])) (fun v H2 => v = .non ∧ Q (.ref x) H2) (E σ)) :
    wpAny (model X.prog X.w) X.A (call (.ref C) us) (EP X pins σ Q) X.xe s := by
  have hq := h (s.heap.objs.size + 1) s.heap.objs.size (I.hok.fresh (Nat.le_succ _)) (I.hok.fresh (Nat.le_refl _)) (Nat.ne_of_lt (Nat.lt_succ_self _))
  have I2 := Inv.made (C := C) I
  have r2 : Vals (V.ref (s.heap.objs.size + 1) :: vs) (Value.ref (s.heap.objs.size + 1) :: us) := .cons rfl r
  have hl : (Value.ref (s.heap.objs.size + 1) :: us).length = ps.length := by
    have e := r2.length
    rw [F.len _ _ _ _ hq] at e
    exact e.symm
  have b := hb _ (Value.ref (s.heap.objs.size + 1) :: us) I2.kIn (by rw [List.append_nil]; exact hl)
  rw [List.append_nil] at b
  refine wpAny_call (make_map (f := f) I.kIn M.makes M.init (beq_iff_eq.mp M.fn) (codeAny_mono (F.run _ X.stack _ _ ⟨Value.ref (s.heap.objs.size + 1) :: us, []⟩ (Value.ref (s.heap.objs.size + 1) :: us) _ _ (E σ) (hr.make C us [])
    (I2.env0.make C us []) b r2 hq) fun r s' hq' => ?_))
  cases r with
  | error e => exact hx pins _ _ e s' I2 hq'
  | ok fl =>
    cases fl with
    | ret u =>
      obtain ⟨v, H', I3, rv, ev, q3⟩ := I2.after hq'
      subst ev
      exact ⟨rv, ⟨V.ref (s.heap.objs.size + 1), H', I3, rfl, q3⟩⟩
    | next => exact False.elim hq'
    | brk => exact False.elim hq'
    | cont => exact False.elim hq'
theorem sE_new {c : Nat} {x : Str} {e : Expr} {es : List Expr} {cs : S → Oc (List R)} {px p : Pos} (F : Fns X PG T k) (hr : Room (2 * k + 2) X.A) (tk : L2.Takes X W) {n : Nat} {f : FnD} (hn : PG.ini c = some n) (M : Mk X.K (T.o c) (T.f n)) (hf : PG.fns[n]? = some f) (hg : Gl X x) (hx : X.mg x = some (.ref (T.o c))) (hdb : (x == ("__debug__" : Str)) = false)
    (ha : PA X (e :: es) (tL T X.K B W cs)) (he : starEach (e :: es) X.env = (false, eval e X.env) :: starEach es X.env) (hpl : (backTo p (starEach es X.env)).any (·.1) = false) :
    PE X (.Call (.Name x px) (e :: es) [] p) (tE T X.K B W fun s => (cs s).bind (newR PG (cal PG k) c)) := by
  refine ⟨fun pins s σ H Q I ⟨G, S0, hR, q⟩ => ?_⟩
  obtain ⟨fd, ps, hp, ok, bd, kp⟩ := F.fn n f hf
  refine wpAny_Call_Name_kw (ld_glob I hg hx ?_ hdb)
  have hA : tL T X.K B W cs σ H fun vs H1 => ∀ x dx, H1 x = none → H1 dx = none → dx ≠ x → spF T X.K PG k n (.ref x :: vs) (upd (upd H1 dx (.own x)) x (.ins (T.o c) dx [])) (fun v H2 => v = .non ∧ Q (.ref x) H2) (WE W σ) := by
    refine ⟨G, S0, hR, at_bind q (.refl _ _ _ _) fun rs s1 G1 H1 vs st1 z1 R1 p1 q1 => ?_⟩
    cases hk : keepRs rs with
    | none =>
      unfold newR at q1
      rw [hk] at q1
      exact q1.elim
    | some ds =>
      obtain ⟨G2, st2, R2, rv⟩ := keepN R1 st1 p1 hk
      exact fun x dx hx hdx ne => new_at R2 st2 rv hk hn ⟨f, hf⟩ q1 x dx hx hdx ne
  refine PySem.W.callWith_K (h₀ := X.base) I.ok.mod.kin M.kp (thn (ha.run p pins s σ H _ I hA) fun us s1 ⟨vs, H1, I1, r, q⟩ => ⟨I1.kIn, ?_⟩) he hpl
  exact run_makeS M ok hr bd.b (L2.passAt tk σ) I1 r q
end
end BB

namespace BB
open PySem PySem.Spec PyProof.Rows L2
section
variable {T : Tab} {K : PySem.W.Frag} {G : Gh} {H : Hp}
theorem RTs.put {kvs : List (List Key × V)} {l : List (D × D)} {k : List Key} {kd d : D} {v : V} (h : RTs T K G H kvs l) (e : dkey kd = some (.inr k)) (r : RV T K G H v d) : RTs T K G H (putK kvs k v) (dput kd (.inr k) d l) := by
  have ha : (kvs.any fun kv => decide (kv.1 = k)) = (l.any fun p => decide (dkey p.1 = some (.inr k))) := by
    induction kvs generalizing l with
    | nil => cases h; rfl
    | cons p q ih =>
      cases h with
      | @cons k' v' kd' d' _ ds e' rv t =>
        rw [List.any_cons, List.any_cons, ih t]
        congr 1
        show decide (k' = k) = decide (dkey kd' = some (Sum.inr k))
        rw [e']
        by_cases hk : k' = k
        · subst hk; simp
        · rw [decide_eq_false hk, decide_eq_false]; intro z; injection z with z; injection z with z; exact hk z
  have hm : RTs T K G H (kvs.map fun kv => if kv.1 = k then (kv.1, v) else kv) (l.map fun p => if dkey p.1 = some (.inr k) then (p.1, d) else p) := by
    clear ha
    induction kvs generalizing l with
    | nil => cases h; exact .nil
    | cons p q ih =>
      cases h with
      | @cons k' v' kd' d' _ ds e' rv t =>
        rw [List.map_cons, List.map_cons]
        by_cases hk : k' = k
        · subst hk
          rw [if_pos rfl, if_pos e']
          exact .cons e' r (ih t)
        · rw [if_neg hk, if_neg (by show ¬ dkey kd' = _; rw [e']; intro z; injection z with z; injection z with z; exact hk z)]
          exact .cons e' rv (ih t)
  have hp : RTs T K G H (kvs ++ [(k, v)]) (l ++ [(kd, d)]) := by
    clear ha hm
    induction kvs generalizing l with
    | nil => cases h; exact .cons e r .nil
    | cons p q ih =>
      cases h with
      | cons e' rv t => exact .cons e' rv (ih t)
  unfold putK dput
  rw [ha]
  split
  · exact hm
  · exact hp
theorem RKs.length : ∀ {kvs : List (Key × V)} {l : List (D × D)}, RKs T K G H kvs l → kvs.length = l.length
  | _, _, .nil => rfl
  | _, _, .cons _ _ t => by rw [List.length_cons, List.length_cons, RKs.length t]
theorem RTs.length : ∀ {kvs : List (List Key × V)} {l : List (D × D)}, RTs T K G H kvs l → kvs.length = l.length
  | _, _, .nil => rfl
  | _, _, .cons _ _ t => by rw [List.length_cons, List.length_cons, RTs.length t]
theorem RVs.set : ∀ {vs : List V} {l : List D} (n : Nat) {v : V} {d : D}, RVs T K G H vs l → RV T K G H v d → RVs T K G H (vs.set n v) (l.set n d)
  | _, _, _, _, _, .nil, _ => .nil
  | _, _, 0, _, _, .cons _ t, r => .cons r t
  | _, _, n + 1, _, _, .cons h t, r => .cons h (RVs.set n t r)
theorem RVs.erase : ∀ {vs : List V} {l : List D} (n : Nat), RVs T K G H vs l → RVs T K G H (vs.eraseIdx n) (l.eraseIdx n)
  | _, _, _, .nil => .nil
  | _, _, 0, .cons _ t => t
  | _, _, n + 1, .cons h t => .cons h (RVs.erase n t)
end
section
variable {T : Tab} {B : Bs} {W : WX} {X : Cx} {PG : Prog}
theorem sE_dnw {t : Bool} {p : Pos} : PE X (.Dict [] [] p) (tE T X.K B W fun s => .ok (.fd t []) s) := by
  cases t with
  | false => exact pe_imp pe_dnewK fun σ H Q ⟨G, s, hR, q⟩ d hd => at_new q (.refl _ _ _ _) hR (.dK hd .nil)
  | true => exact pe_imp pe_dnewT fun σ H Q ⟨G, s, hR, q⟩ d hd => at_new q (.refl _ _ _ _) hR (.dT hd .nil)
/-- o.f = e -/
theorem sS_sfld {o e : Expr} {f : Str} {co c : S → Oc R} {po p : Pos} (hf : ∀ c, PG.fldOk c f = true → Cls X.K (T.o c) ∧ NoAttr X.K (T.o c) f) (ho : PE X o (tE T X.K B W co)) (he : PE X e (tE T X.K B W c)) (hs : swapsWith e (some (.Attribute o f po)) p.line X.env = pure false) :
    PS X (.Assign [.Attribute o f po] e p) (tS T X.K B W fun s => (c s).fl fun r s1 => match keepR r with
    | some d => (co s1).fl fun x s2 => sfldF PG f d (bxOf x s2) s2
    | none => .bad) := ps_imp (ps_fld ho he hs) fun De σ H ⟨G, s, hR, q⟩ => by
  refine ⟨G, s, hR, f_bind (P := PR T X.K B) q (.refl _ _) fun r s1 G1 H1 v st p1 R1 r1 q1 => ?_⟩
  split at q1
  · rename_i d hk
    obtain ⟨G2, st2, R2, rv, P2⟩ := keep1p R1 st r1 hk
    refine ⟨G2, s1, R2, f_bind (P := PR T X.K B) (q1.mono P2) (.refl _ _) fun x s3 G3 H3 v3 st3 p3 R3 r3 q3 => ?_⟩
    unfold sfldF at q3
    split at q3
    · rename_i i cc fs hb
      split at q3
      · rename_i hc
        obtain ⟨a, rfl, hi, hs, hbx, _⟩ := box_at R3 r3 hb
        cases hbx with
        | @ins _ dx fv _ e1 rf =>
          have P := box_pers (o' := .ins (T.o cc) dx (putF f v fv)) R3.c hi e1 trivial
          exact ⟨a, _, dx, fv, rfl, e1, (hf cc hc.1).1, (hf cc hc.1).2, by rw [rf.length]; exact hc.2, q3 _ _ _ P (R3.boxw hi e1 trivial fun P => .ins upd_same (fput_of ((rv.mono p3).mono P) (rf.mono P)))⟩
      · exact q3.elim
    · exact q3.elim
  · exact q1.elim
theorem ps_or {st : Stmt} {t u : TS} (a : PS X st t) (b : PS X st u) : PS X st fun D σ H => t D σ H ∨ u D σ H := ⟨fun pins s σ H D I h => h.elim (fun h => a.run pins s σ H D I h) fun h => b.run pins s σ H D I h⟩
theorem putB_ok {K : PySem.W.Frag} {G : Gh} {H : Hp} {a : Addr} {kd v : D} {b b' : Bx} {y w : V} (e : putB (some kd) v b = some b') (hb : BxR T K G H a b) (ry : RV T K G H y kd) (rv : RV T K G H w v) :
    (∃ o', DPut H a y w (upd H a o') ∧ (Pers G H G (upd H a o') → BxR T K G (upd H a o') a b')) ∨ ∃ xs j n, H a = some (.lst xs) ∧ y = .int j ∧ ixN xs.length j = some n ∧ (Pers G H G (upd H a (.lst (xs.set n w))) → BxR T K G (upd H a (.lst (xs.set n w))) a b') := by
  unfold putB at e
  split at e
  · rename_i t l k ek
    injection ek with ek; subst ek
    split at e
    · rename_i q hq
      split at e
      · rename_i hz
        injection e with e; subst e
        cases hb with
        | @dcK vs _ e1 rk =>
          obtain ⟨k, rfl, ek⟩ := keyT_f hq
          rw [key_of ek ry]
          exact .inl ⟨_, DPut.k e1 (by rw [rk.length]; exact hz), fun P => .dcK upd_same ((rk.mono P).put ek (rv.mono P))⟩
        | @dcT vs _ e1 rk =>
          obtain ⟨k, rfl, ek⟩ := keyT_t hq
          obtain ⟨c, rfl, ec⟩ := tkey_of ek ry
          exact .inl ⟨_, DPut.t e1 ec (by rw [rk.length]; exact hz), fun P => .dcT upd_same ((rk.mono P).put ek (rv.mono P))⟩
      · cases e
    · cases e
  · rename_i l j ej
    injection ej with ej; subst ej
    split at e
    · rename_i n hn
      injection e with e; subst e
      cases ry
      cases hb with
      | ls e1 r => exact .inr ⟨_, j, n, e1, rfl, by rw [r.length]; exact hn, fun P => .ls upd_same (RVs.set n (r.mono P) (rv.mono P))⟩
    · cases e
  · cases e
theorem putB_lk (kd : Option D) (v : D) : (∀ l, putB kd v (.lkl l) = none) ∧ ∀ t l, putB kd v (.lkd t l) = none := ⟨fun l => by cases kd <;> rfl, fun t l => by cases kd <;> rfl⟩
/-- o[k] = e -/
theorem sS_sput {o k e : Expr} {co ck c : S → Oc R} {po p : Pos} (hu : X.A.units + 1 < cLine) (ho : PE X o (tE T X.K B W co)) (hk : PE X k (tE T X.K B W ck)) (he : PE X e (tE T X.K B W c)) (hs : swapsWith e (some (.Subscript o k po)) p.line X.env = pure false) :
    PS X (.Assign [.Subscript o k po] e p) (tS T X.K B W fun s => (c s).fl fun r s1 => match keepR r with
    | some d => (co s1).fl fun x s2 => (ck s2).fl fun y s3 => nxO (chg (putB (keepR y) d) x s3)
    | none => .bad) := by
  have core : ∀ (De : Ends) (σ : St) (H : Hp), (tS T X.K B W fun s => (c s).fl fun r s1 => match keepR r with
    | some d => (co s1).fl fun x s2 => (ck s2).fl fun y s3 => nxO (chg (putB (keepR y) d) x s3)
    | none => .bad) De σ H → tE T X.K B W c σ H fun v H1 => tE T X.K B W co σ H1 fun x H2 => tE T X.K B W ck σ H2 fun y H3 =>
      (∃ a H4, x = .ref a ∧ DPut H3 a y v H4 ∧ De.nx σ H4) ∨ ∃ a xs j n, x = .ref a ∧ y = .int j ∧ H3 a = some (.lst xs) ∧ ixN xs.length j = some n ∧ De.nx σ (upd H3 a (.lst (xs.set n v))) := fun De σ H ⟨G, s, hR, q⟩ => by
    refine ⟨G, s, hR, f_bind (P := PR T X.K B) q (.refl _ _) fun r s1 G1 H1 v st p1 R1 r1 q1 => ?_⟩
    split at q1
    · rename_i d hk
      obtain ⟨G2, st2, R2, rv, P2⟩ := keep1p R1 st r1 hk
      refine ⟨G2, s1, R2, f_bind (P := PR T X.K B) (q1.mono P2) (.refl _ _) fun x s3 G3 H3 v3 st3 p3 R3 r3 q3 => ⟨G3, s3, R3, f_bind (P := PR T X.K B) q3 (.refl _ _) fun y s4 G4 H4 v4 st4 p4 R4 r4 q4 => ?_⟩⟩
      unfold nxO at q4
      split at q4
      · rename_i s5 hc
        cases hy : keepR y with
        | none =>
          obtain ⟨a, b, b', o, _, hf, _⟩ := chg_ok R4 (RR.mono r3 st4) hc (putB_lk _ _).1 (putB_lk _ _).2
          rw [hy] at hf
          cases b <;> cases hf
        | some kd =>
          rw [hy] at hc
          obtain ⟨G5, st5, R5, ry, P5⟩ := keep1p R4 st4 r4 hy
          obtain ⟨a, b, b', o, ea, hf, hb, e1, mu, fin⟩ := chg_ok R5 (RR.mono r3 st5) hc (putB_lk _ _).1 (putB_lk _ _).2
          subst ea
          rcases putB_ok hf hb ry ((rv.mono p3).mono st5.p) with ⟨o', dp, kb⟩ | ⟨xs, j, n, e2, rfl, hn, kb⟩
          · obtain ⟨f1, f2, f3⟩ := fin o' kb
            exact .inl ⟨a, _, rfl, dp, q4 _ _ _ (P5.trans f2) f1⟩
          · obtain ⟨f1, f2, f3⟩ := fin _ kb
            exact .inr ⟨a, xs, j, n, rfl, rfl, e2, hn, q4 _ _ _ (P5.trans f2) f1⟩
      · exact q4.elim
    · exact q1.elim
  refine ⟨fun pins s σ H De I h => ?_⟩
  refine wpAny_Assign_Subscript (thn (he.run pins s σ H _ I (core De σ H h)) fun r s1 ⟨v, H1, I1, rv, q1⟩ => thn (ho.run pins s1 σ H1 _ I1 q1) fun u s2 ⟨x, H2, I2, rx, q2⟩ => thn (hk.run pins s2 σ H2 _ I2 q2) fun iv s3 ⟨y, H3, I3, ry, q3⟩ => ?_) hs
  rcases q3 with ⟨a, H4, ex, g, q4⟩ | ⟨a, xs, j, n, ex, ey, e2, hn, q4⟩
  · subst ex
    obtain rfl : u = Value.ref a := rx
    exact d_setItem hu I3 g ry rv fun s' I4 => ⟨σ, H4, I4, q4⟩
  · have z := set_list (X := X) pins s3 σ H3 x y v u iv r (fun H' => De.nx σ H') I3 rx ry rv ⟨a, xs, j, n, ex, ey, e2, hn, q4⟩
    exact thn z fun _ s4 ⟨H5, I5, q5⟩ => ⟨σ, H5, I5, q5⟩
/-- o.append(e), o.extend(e), o a list of its own -/
theorem sS_mapp {o e : Expr} {co c : S → Oc R} {pa pc p : Pos} (ho : PE X o (tE T X.K B W co)) (he : PE X e (tE T X.K B W c)) (hbase : attributeBase o "append" X.env (eval o X.env) = eval o X.env) (hst : starEach [e] X.env = (false, eval e X.env) :: starEach [] X.env) (hline : (pa.endLine == pc.line) = true) :
    PS X (.Expr (.Call (.Attribute o "append" pa) [e] [] pc) p) (tS T X.K B W fun s => (co s).fl fun x s1 => if isL x s1 = true then (c s1).fl fun r s2 => nxO (chg (appB (keepR r)) x s2) else .bad) := by
  have hpl : (backTo pc (starEach [] X.env)).any (·.1) = false := rfl
  have hfew : ((backTo pc (starEach [e] X.env)).all (fun x => !x.1) && (backToKw pc (keywordEach [] X.env)).all (fun x => x.1.isSome)
      && decide (([e] : List Expr).length + ([] : List Keyword).length + (if ([] : List Keyword).isEmpty then 0 else 1) < 30)) = true := by rw [hst]; rfl
  refine ps_imp (ps_expr (pe_bm PySem.F.plainAttrs_list PySem.F.slot_list_append PySem.F.type_list_append mt_append ho (pa_cons he pa_nil hst) hbase hfew hline hst hpl)) fun De σ H ⟨G, s, hR, q⟩ => ?_
  refine ⟨G, s, hR, f_bind (P := PR T X.K B) q (.refl _ _) fun x s1 G1 H1 v st p1 R1 r1 q1 => ?_⟩
  split at q1
  · rename_i hl
    obtain ⟨a, vs, rfl, e1⟩ := isL_ok R1 r1 hl
    refine ⟨.inl ⟨rfl, _, .inl (.inl e1)⟩, G1, s1, R1, f_bind (P := PR T X.K B) q1 (.refl _ _) fun r s2 G2 H2 v2 st2 p2 R2 r2 q2 => ?_⟩
    unfold nxO at q2
    split at q2
    · rename_i s3 hc
      cases hk : keepR r with
      | none =>
        obtain ⟨a, b, b', o, _, hf, _⟩ := chg_ok R2 (RR.mono r1 st2) hc (fun l => rfl) (fun t l => rfl)
        rw [hk] at hf
        cases b <;> cases hf
      | some d =>
        rw [hk] at hc
        obtain ⟨G3, st3, R3, rv, P3⟩ := keep1p R2 st2 r2 hk
        obtain ⟨a', b, b', o, ea, hf, hb, e2, mu, fin⟩ := chg_ok R3 (RR.mono r1 st3) hc (fun l => rfl) (fun t l => rfl)
        cases ea
        cases hb with
        | @ls xs l e3 r =>
          have hf : (if l.length < sizeLine then some (Bx.ls (l ++ [d])) else none) = some b' := hf
          split at hf
          · rename_i hz
            injection hf with hf; subst hf
            obtain ⟨f1, f2, f3⟩ := fin (.lst (xs ++ [v2])) fun P => .ls upd_same ((r.mono P).append (.cons (rv.mono P) .nil))
            exact ⟨a, xs, v2, rfl, rfl, e3, by rw [r.length]; exact hz, q2 _ _ _ (P3.trans f2) f1⟩
          · cases hf
        | _ => cases hf
    · exact q2.elim
  · exact q1.elim
/-- no locked list -/
theorem ls_at {K : PySem.W.Frag} {s0 s : S} {H0 H : Hp} {G : Gh} {σ : St} {v : V} {r : R} {l : List D} (hR : Rel T K B G s σ H) (h : RR T K B s0 H0 G s σ H v r) (e : view s r = some (.ls l)) (hn : nlk r s = true) : ∃ a vs, v = .ref a ∧ H a = some (.lst vs) ∧ RVs T K G H vs l := by
  cases h with
  | @va v d q =>
    cases q <;> first | (cases e; done) | skip
    · injection e with e; injection e with e; subst e; rename_i f x y; exact ⟨_, _, rfl, x, y⟩
    · rename_i i a x
      have e : vwBx i s.st[i]? = some (.ls l) := e
      have hn : (match s.st[i]? with | some (.lkl _) => false | _ => true) = true := hn
      cases q : s.st[i]? with
      | none => rw [q] at e; cases e
      | some b =>
        rw [q] at e hn
        have z := hR.c.bx _ _ _ q x
        cases b <;> first | (cases e; done) | (cases hn; done) | skip
        injection e with e; injection e with e; subst e
        cases z with | ls e1 r => exact ⟨_, _, rfl, e1, r⟩
  | fl e1 r f => injection e with e; injection e with e; subst e; exact ⟨_, _, rfl, e1, r⟩
  | fdK => cases e
  | fdT => cases e
  | @own i v x =>
    have e : vwSl s.env[i]? = some (.ls l) := e
    cases q : s.env[i]? with
    | none => rw [q] at e; cases e
    | some o =>
      rw [q] at e
      have z := hR.sl _ _ q
      rw [x] at z
      cases o <;> first | (cases e; done) | skip
      injection e with e; injection e with e; subst e
      cases z with | ol e1 r => exact ⟨_, _, rfl, e1, r⟩
theorem sS_mext {o e : Expr} {co c : S → Oc R} {pa pc p : Pos} (ho : PE X o (tE T X.K B W co)) (he : PE X e (tE T X.K B W c)) (hbase : attributeBase o "extend" X.env (eval o X.env) = eval o X.env) (hst : starEach [e] X.env = (false, eval e X.env) :: starEach [] X.env) (hline : (pa.endLine == pc.line) = true) :
    PS X (.Expr (.Call (.Attribute o "extend" pa) [e] [] pc) p) (tS T X.K B W fun s => (co s).fl fun x s1 => if isL x s1 = true then (c s1).fl fun r s2 => if nlk r s2 = true then nxO (chg (extB (view s2 r)) x s2) else .bad else .bad) := by
  have hpl : (backTo pc (starEach [] X.env)).any (·.1) = false := rfl
  have hfew : ((backTo pc (starEach [e] X.env)).all (fun x => !x.1) && (backToKw pc (keywordEach [] X.env)).all (fun x => x.1.isSome)
      && decide (([e] : List Expr).length + ([] : List Keyword).length + (if ([] : List Keyword).isEmpty then 0 else 1) < 30)) = true := by rw [hst]; rfl
  refine ps_imp (ps_expr (pe_bm PySem.F.plainAttrs_list PySem.F.slot_list_extend PySem.F.type_list_extend mt_extend ho (pa_cons he pa_nil hst) hbase hfew hline hst hpl)) fun De σ H ⟨G, s, hR, q⟩ => ?_
  refine ⟨G, s, hR, f_bind (P := PR T X.K B) q (.refl _ _) fun x s1 G1 H1 v st p1 R1 r1 q1 => ?_⟩
  split at q1
  · rename_i hl
    obtain ⟨a, vs, rfl, e1⟩ := isL_ok R1 r1 hl
    refine ⟨.inl ⟨rfl, _, .inl (.inl e1)⟩, G1, s1, R1, f_bind (P := PR T X.K B) q1 (.refl _ _) fun r s2 G2 H2 v2 st2 p2 R2 r2 q2 => ?_⟩
    split at q2
    · rename_i hnl
      unfold nxO at q2
      split at q2
      · rename_i s3 hc
        obtain ⟨a', b, b', o, ea, hf, hb, e2, mu, fin⟩ := chg_ok R2 (RR.mono r1 st2) hc (fun l => rfl) (fun t l => rfl)
        cases ea
        cases hv : view s2 r with
        | none => rw [hv] at hf; cases b <;> cases hf
        | some w =>
          rw [hv] at hf
          cases hb with
          | @ls xs l e3 rl =>
            cases w <;> first | (cases hf; done) | skip
            rename_i m
            have hf : (if l.length + m.length ≤ sizeLine then some (Bx.ls (l ++ m)) else none) = some b' := hf
            split at hf
            · rename_i hz
              injection hf with hf; subst hf
              obtain ⟨c, ws, rfl, e4, rm⟩ := ls_at R2 r2 hv hnl
              obtain ⟨f1, f2, f3⟩ := fin (.lst (xs ++ ws)) fun P => .ls upd_same ((rl.mono P).append (rm.mono P))
              exact ⟨a, c, xs, ws, rfl, rfl, e3, e4, by rw [rl.length, rm.length]; exact hz, q2 _ _ _ f2 f1⟩
            · cases hf
          | _ => cases hf
      · exact q2.elim
    · exact q2.elim
  · exact q1.elim
/-- o.pop(), o.pop(i) -/
theorem ix_get {α : Type} {xs : List α} {i : Int} {y : α} (h : atI xs i = some y) : ∃ n, ixN xs.length i = some n ∧ xs[n]? = some y := by
  unfold atI at h
  cases e : ixN xs.length i with
  | none => rw [e] at h; cases h
  | some n => rw [e] at h; exact ⟨n, rfl, h⟩
theorem pop_core {K : PySem.W.Frag} {G : Gh} {s0 s : S} {σ : St} {H0 H : Hp} {a : Addr} {x : R} {j : Option Int} {Q : VK} {G0 : Gh} {s00 : S} {H00 : Hp} {W : WX} (hR : Rel T K B G s σ H) (p0 : Stp σ G0 s00 H00 G s H) (r1 : RR T K B s0 H0 G s σ H (.ref a) x) (q : At T K B W (PR T K B) (popR x j s) G0 s00 σ H00 Q) :
    ∃ xs n y, xs.length ≤ sizeLine ∧ H a = some (.lst xs) ∧ ixN xs.length (j.getD (-1)) = some n ∧ xs[n]? = some y ∧ Q y (upd H a (.lst (xs.eraseIdx n))) := by
  unfold popR at q
  split at q
  · rename_i d s1 hv hc
    obtain ⟨a', b, b', o, ea, hf, hb, e2, mu, fin⟩ := chg_ok hR r1 hc (fun l => rfl) (fun t l => rfl)
    cases ea
    cases hb with
    | @ls xs l e3 rl =>
      have hf : (match ixN l.length (j.getD (-1)) with | some n => some (Bx.ls (l.eraseIdx n)) | none => none) = some b' := hf
      cases hw : view s x with
      | none => rw [hw] at hv; cases hv
      | some w =>
        rw [hw] at hv
        cases w <;> first | (cases hv; done) | skip
        rename_i m
        have hv : (if m.length ≤ sizeLine then atI m (j.getD (-1)) else none) = some d := hv
        split at hv <;> first | (cases hv; done) | skip
        rename_i hsz
        have vw := view_ok hR r1 hw
        cases vw with
        | ls rd rm =>
          have ex : ∃ vs', HO.lst vs' = HO.lst xs ∧ RVs T K G H vs' m := by
            rcases rd with rd | ⟨o, rd⟩
            · rw [e3] at rd; cases rd; exact ⟨_, rfl, rm⟩
            · rw [e3] at rd; cases rd
          obtain ⟨vs', ev, rm⟩ := ex
          cases ev
          obtain ⟨n, hn, hd⟩ := ix_get hv
          obtain ⟨y, hy, ry⟩ := rm.get hd
          have hml : m.length = l.length := by rw [← rm.length, rl.length]
          rw [← hml, hn] at hf
          injection hf with hf; subst hf
          obtain ⟨f1, f2, f3⟩ := fin (.lst (xs.eraseIdx n)) fun P => .ls upd_same (RVs.erase n (rl.mono P))
          exact ⟨xs, n, y, by rw [rm.length]; exact hsz, e3, by rw [rm.length]; exact hn, hy, q _ _ _ (p0.trans f3) f1 (.va (ry.mono f2))⟩
    | _ => cases hf
  · exact q.elim
theorem sE_pop0 {o : Expr} {co : S → Oc R} {pa p : Pos} (ho : PE X o (tE T X.K B W co)) (hbase : attributeBase o "pop" X.env (eval o X.env) = eval o X.env) (hline : (pa.endLine == p.line) = true) :
    PE X (.Call (.Attribute o "pop" pa) [] [] p) (tE T X.K B W fun s => (co s).bind fun x s1 => if isL x s1 = true then (Oc.ok none s1).bind (popR x) else .bad) := by
  refine pe_imp (pe_bm0 PySem.F.plainAttrs_list PySem.F.slot_list_pop PySem.F.type_list_pop mt_pop ho hbase hline) fun σ H Q ⟨G, s, hR, q⟩ => ?_
  refine ⟨G, s, hR, at_bind q (.refl _ _ _ _) fun x s1 G1 H1 v1 st1 z1 R1 p1 q1 => ?_⟩
  split at q1
  · rename_i hl
    obtain ⟨a, vs, rfl, e1⟩ := isL_ok R1 p1 hl
    obtain ⟨xs, n, y, hsz, e2, hn, hy, q2⟩ := pop_core R1 z1 p1 q1
    have hn2 : n = xs.length - 1 := by
      have hn : ixN xs.length (-1) = some n := hn
      unfold ixN at hn
      rw [if_neg (by decide)] at hn
      split at hn
      · injection hn with hn; omega
      · cases hn
    subst hn2
    refine ⟨.inl ⟨rfl, _, .inl (.inl e1)⟩, a, xs, y, rfl, rfl, e2, hy, ?_⟩
    rw [PyProof.Rows.Copied.eraseIdx_last] at q2
    exact q2
  · exact q1.elim
theorem sE_popi {o e : Expr} {co c : S → Oc R} {pa p : Pos} (ho : PE X o (tE T X.K B W co)) (he : PE X e (tE T X.K B W c)) (hbase : attributeBase o "pop" X.env (eval o X.env) = eval o X.env) (hst : starEach [e] X.env = (false, eval e X.env) :: starEach [] X.env) (hline : (pa.endLine == p.line) = true) :
    PE X (.Call (.Attribute o "pop" pa) [e] [] p) (tE T X.K B W fun s => (co s).bind fun x s1 => if isL x s1 = true then ((c s1).bind fun r s2 => match r with
    | .va (.int i) => Oc.ok (some i) s2
    | _ => .bad).bind (popR x) else .bad) := by
  have hpl : (backTo p (starEach [] X.env)).any (·.1) = false := rfl
  have hfew : ((backTo p (starEach [e] X.env)).all (fun x => !x.1) && (backToKw p (keywordEach [] X.env)).all (fun x => x.1.isSome)
      && decide (([e] : List Expr).length + ([] : List Keyword).length + (if ([] : List Keyword).isEmpty then 0 else 1) < 30)) = true := by rw [hst]; rfl
  refine pe_imp (pe_bm PySem.F.plainAttrs_list PySem.F.slot_list_pop PySem.F.type_list_pop mt_popAt ho (pa_cons he pa_nil hst) hbase hfew hline hst hpl) fun σ H Q ⟨G, s, hR, q⟩ => ?_
  refine ⟨G, s, hR, at_bind q (.refl _ _ _ _) fun x s1 G1 H1 v1 st1 z1 R1 p1 q1 => ?_⟩
  split at q1
  · rename_i hl
    obtain ⟨a, vs, rfl, e1⟩ := isL_ok R1 p1 hl
    refine ⟨.inl ⟨rfl, _, .inl (.inl e1)⟩, G1, s1, R1, at_bind (f := fun r s2 => (match r with
      | .va (.int i) => Oc.ok (some i) s2
      | _ => .bad : Oc (Option Int)).bind (popR x)) (by
        have e : (((c s1).bind fun r s2 => match r with
          | .va (.int i) => Oc.ok (some i) s2
          | _ => .bad : Oc (Option Int)).bind (popR x)) = (c s1).bind fun r s2 => (match r with
          | .va (.int i) => Oc.ok (some i) s2
          | _ => .bad : Oc (Option Int)).bind (popR x) := by cases c s1 <;> rfl
        rw [e] at q1; exact q1) z1 fun r s2 G2 H2 v2 st2 z2 R2 p2 q2 => ?_⟩
    split at q2
    · rename_i i
      cases p2 with | va p2 => cases p2 with | int i =>
        obtain ⟨xs, n, y, hsz, e2, hn, hy, q3⟩ := pop_core R2 z2 (RR.mono p1 st2) q2
        have hb : -(xs.length : Int) ≤ i ∧ i < xs.length := by
          obtain ⟨_, _, h1, h2⟩ := ixN_seq hn
          exact ⟨h1, h2⟩
        exact ⟨a, xs, i, n, y, rfl, rfl, e2, (by rw [sizeLine_eq] at hsz; omega), (by rw [sizeLine_eq] at hsz; omega), (ixN_seq hn).1, hy, q3⟩
    · exact q2.elim
  · exact q1.elim
end
end BB

/-! items of a dict with tuple keys, walked -/
namespace L2
open PySem PySem.Spec PyProof.Rows
section
variable {X : Cx} {pins : List (Addr × Obj)} {σ : St} {H : Hp} {s : Shared} {d : Addr} {o : Obj}
theorem Inv.frzTv {kvs : List (List Key × V)} (I : Inv X pins σ H s) (h : H d = some (.frz o (.dT kvs))) :
    (d == sysModules) = false ∧ s.heap.get? d = some o ∧ o.ExactDict ∧ ∃ (es : Array DictEntry) (ep : Nat), o.data = .dict es ep ∧ es.size = kvs.length ∧
      ∀ (i : Nat) (k : List Key) (v : V), kvs[i]? = some (k, v) → ∃ (en : DictEntry) (q : Addr), es[i]? = some en ∧ en.key = .ref q ∧ H q = some (.tup (k.map kV)) ∧ RelV v en.val := by
  obtain ⟨hd, z, hs, xs, pr, o', es, ep, ho, hx, hdt, he, _⟩ := I.hok d _ h
  rw [hd] at ho
  cases ho
  refine ⟨hs, hd, hx, es, ep, hdt, ?_, fun i k v e => ?_⟩
  · have l1 : es.size = xs.length := size_of_entries he
    have l2 : kvs.length = xs.length := Paired.length pr
    omega
  · obtain ⟨b, hb, e1, e2, e3⟩ := paired_get pr e
    have q := entry_at he i
    rw [hb] at q
    exact ⟨_, b.2.1, q, rfl, e2, e3⟩
end
/-- the pairs, each a new tuple -/
def Itit (d : Addr) (o : Obj) (kvs : List (List Key × V)) : It :=
  ⟨fun i H => H d = some (.frz o (.dT kvs)) ∧ i < kvs.length, fun i H x H' => ∃ T k v q, kvs[i]? = some (k, v) ∧ x = .ref T ∧ H T = none ∧ H q = some (.tup (k.map kV)) ∧ H' = upd H T (.tup [.ref q, v]), fun i H => H d = some (.frz o (.dT kvs)) ∧ kvs.length ≤ i⟩
theorem turn_itemsT {P : Program} {w : World} {K : PySem.W.Frag} {d : Addr} {o : Obj} {es : Array DictEntry} {ep : Nat} {kvs : List (List Key × V)} {elts : List Expr} {kk : Nat} {tpos : Pos} (it : Addr) (hod : o.data = .dict es ep) :
    Turn P w K (.Tuple elts kk tpos) (Itit d o kvs) [it] it (fun i h => ∃ ok ov, IsItemIter h it d i kvs.length ep ok ov) where
  mem := by simp
  obj := fun i h st b hb => by
    have e : b = it := by simpa using hb
    subst e
    obtain ⟨ok, ov, e⟩ := st
    exact ⟨_, e, fun v z => nomatch z⟩
  keep := fun i h h' st k => let ⟨ok, ov, e⟩ := st; ⟨ok, ov, k it (by simp) _ e⟩
  item := by
    intro X hP hw hK hc i pins s σ H E I hf st hg
    subst hP hw hK
    obtain ⟨hd, hi⟩ := hg
    obtain ⟨hs, hgd, hx, es', ep', hdt, hsz, ent⟩ := I.frzTv hd
    obtain ⟨rfl, rfl⟩ := dict_ep hod hdt
    obtain ⟨⟨k, v⟩, hkv⟩ : ∃ p, kvs[i]? = some p := ⟨kvs[i], List.getElem?_eq_getElem hi⟩
    obtain ⟨en, q, hen, hkey, hq, hv⟩ := ent i k v hkv
    have hi' : i < es'.size := by rw [hsz]; exact hi
    have hen' : es'[i] = en := by
      rw [Array.getElem?_eq_getElem hi'] at hen
      injection hen
    obtain ⟨ok, ov, he⟩ := st
    rw [← hsz] at he
    have hlt : it < s.heap.objs.size := Heap.lt_size he
    refine DT.nextI he ⟨o, hgd, hx, hdt⟩ hi' fun h' ho hT hz hk => ?_
    rw [hen'] at ho hT
    refine ⟨_, rfl, wpAny_letOwnedTupleGo_items (s := { s with heap := h' }) ho fun h'' he' sb => ?_⟩
    have hT2 : h''.get? s.heap.objs.size = some { cls := .type "tuple", data := .seq #[en.key, en.val] } := (sb.2 _ (Nat.ne_of_gt hlt)).trans hT
    have new : ObjOk X.prog X.w (upd H s.heap.objs.size (.tup [.ref q, v])) h'' s.heap.objs.size (.tup [.ref q, v]) :=
      ⟨by show 2 ≤ sizeLine; decide, [en.key, en.val], .cons (show RelV (.ref q) en.key from hkey) (.cons hv .nil), ⟨_, hT2, rfl, _, rfl⟩⟩
    have I1 : Inv X pins σ (upd H s.heap.objs.size (.tup [.ref q, v])) { s with heap := h'' } :=
      I.turnedNew (t' := s.toks) (ch := [it]) (fun b ob hb e => (sb.2 b (by simpa using hb)).trans (hk b ob (by simpa using hb) e)) hf (Nat.le_refl _) new
    refine ⟨.ref s.heap.objs.size, _, I1, rfl, ⟨_, k, v, q, hkv, rfl, I.hok.fresh (Nat.le_refl _), hq, rfl⟩, ⟨en.key, en.val, ?_⟩, fun b hb => ?_⟩
    · rw [← hsz]; exact he'
    · have e : b = it := by simpa using hb
      rw [e, upd_ne (Nat.ne_of_lt hlt)]
      exact (hf it (by simp)).1
  done := by
    intro X hP hw hK hc i pins s σ H E I hf st hg
    subst hP hw hK
    obtain ⟨hd, hi⟩ := hg
    obtain ⟨f0, f1, f2, f3, f4, f5⟩ := hf it (by simp)
    obtain ⟨hs, hgd, hx, es', ep', hdt, hsz, ent⟩ := I.frzTv hd
    obtain ⟨rfl, rfl⟩ := dict_ep hod hdt
    obtain ⟨ok, ov, he⟩ := st
    rw [← hsz] at he
    exact DT.endI (I.ok.hd hc) he ⟨o, hgd, hx, hdt⟩ (by rw [hsz]; exact hi) fun h' eb => ⟨rfl, I.turned (t' := s.toks) (fun b ob hb e => eb b ob hb e) f0 f1 f3 f4 f5⟩
  self := fun A i s Q E st h => let ⟨_, _, e⟩ := st; PySem.W.kcp_self e h
def iItemsT (td : TE) : TI := fun σ H R => td σ H fun x H1 => ∃ d o kvs, x = .ref d ∧ H1 d = some (.frz o (.dT kvs)) ∧ R (Itit d o kvs) H1
theorem pi_itemsT {X : Cx} {e : Expr} {td : TE} {apos cpos : Pos} {elts : List Expr} {kk : Nat} {tpos : Pos} (he : PE X e td) (hbase : attributeBase e "items" X.env (eval e X.env) = eval e X.env := by rfl) (hline : (apos.endLine == cpos.line) = true := by rfl) :
    PI X (.Tuple elts kk tpos) (.Call (.Attribute e "items" apos) [] [] cpos) (iItemsT td) := by
  refine ⟨fun pins s σ H R I h => ?_⟩
  refine wpAny_Call_method (T := "dict") (id := "dict.items") hbase rfl hline F.plainAttrs_dict F.slot_dict_items F.type_dict_items (thn (he.run pins s σ H _ I h) fun u s1 ⟨x, H1, I1, rx, d, o, kvs, ex, hd, q⟩ => ?_)
  subst ex
  obtain rfl : u = Value.ref d := rx
  obtain ⟨hs, hgd, hx, es, ep, hdt, hsz, ent⟩ := I1.frzTv hd
  have raw : DT.Raw s1.heap d es ep := ⟨o, hgd, hx, hdt⟩
  have isd : IsD H1 d := .inr ⟨kvs, .inr ⟨o, hd⟩⟩
  obtain ⟨i1, i2, i3⟩ := isD_at I1 isd
  refine ⟨i1, i2, ?_⟩
  have I2 : Inv X pins σ H1 { s1 with heap := s1.heap.push { cls := .type "dict_items", data := .fields #[.ref d] } } := I1.kept (t' := s1.toks) fun b ob q => Heap.get?_push_of_some _ q
  have fin : wpAny (model X.prog X.w) X.A (pyIter (.ref s1.heap.objs.size)) (PIE X pins σ (.Tuple elts kk tpos) R) X.xe { s1 with heap := s1.heap.push { cls := .type "dict_items", data := .fields #[.ref d] } } := by
    refine DT.iterI (d := d) (es := es) (ep := ep) ⟨_, Heap.get?_push_size _ rfl, rfl, rfl⟩ (raw.push _) (pi_one (tk := s1.toks) I2 _ (turn_itemsT _ hdt) ⟨.none, .none, ?_⟩ q)
    rw [← hsz]
    exact Heap.get?_push_size _ rfl
  show wpAny _ _ (callWith cpos (.builtin "dict.items") [.ref d] [] []) _ X.xe s1
  exact method_meetsIn F.slot_dict_items F.entry_dict_items rfl (PySem.evalArgs_none ⟨rfl, i1, F.args_dict_items_1 _, _, DT.meetsItems (es := es) (ep := ep) hs, ⟨raw, fin⟩⟩)
end L2

namespace BB
open PySem PySem.Spec PyProof.Rows L2
/-! locks -/
/-- what never changes, but that a lock may be taken off -/
structure PersV (G : Gh) (H : Hp) (G' : Gh) (H' : Hp) : Prop where
  io : ∀ (i : Nat) (a : Addr), G.io[i]? = some a → G'.io[i]? = some a
  F : ∀ a, G.F a → G'.F a
  kF : ∀ a, G.F a → H' a = H a
  tup : ∀ a xs, H a = some (.tup xs) → H' a = some (.tup xs)
  xd : ∀ a fs, H a = some (.xd fs) → H' a = some (.xd fs)
section
variable {T : Tab} {K : PySem.W.Frag} {G G' : Gh} {H H' : Hp}
theorem RV.monoV (p : PersV G H G' H') {v : V} {d : D} (h : RV T K G H v d) : RV T K G' H' v d := by
  refine RV.rec (motive_1 := fun v d _ => RV T K G' H' v d) (motive_2 := fun vs ds _ => RVs T K G' H' vs ds) (motive_3 := fun vs ds _ => RKs T K G' H' vs ds) (motive_4 := fun vs ds _ => RTs T K G' H' vs ds)
    ?_ ?_ ?_ ?_ ?_ ?_ ?_ ?_ ?_ ?_ ?_ ?_ ?_ ?_ ?_ ?_ ?_ ?_ ?_ h
  · exact .non
  · exact fun b => .bl b
  · exact fun b => .int b
  · exact fun b => .str b
  · exact fun b => .ty b
  · exact fun b => .fn b
  · exact fun q _ ih => .tup (p.tup _ _ q) ih
  · exact fun q _ ih => .ktup q ih
  · exact fun f q _ ih => .lst (p.F _ f) ((p.kF _ f).trans q) ih
  · exact fun f q _ ih => .dcK (p.F _ f) ((p.kF _ f).trans q) ih
  · exact fun f q _ ih => .dcT (p.F _ f) ((p.kF _ f).trans q) ih
  · exact fun q => .ref (p.io _ _ q)
  · exact fun q _ ih => .scr (q.imp (fun q => ⟨p.F _ q.1, by have := q.2; unfold Rd at *; rw [p.kF _ q.1]; exact this⟩) id) ih
  · exact .nil
  · exact fun _ _ i j => .cons i j
  · exact .nil
  · exact fun e _ _ i j => .cons e i j
  · exact .nil
  · exact fun e _ _ i j => .cons e i j
theorem RVs.monoV (p : PersV G H G' H') : ∀ {vs : List V} {ds : List D}, RVs T K G H vs ds → RVs T K G' H' vs ds
  | _, _, .nil => .nil
  | _, _, .cons r t => .cons (r.monoV p) (RVs.monoV p t)
theorem RKs.monoV (p : PersV G H G' H') : ∀ {vs : List (Key × V)} {ds : List (D × D)}, RKs T K G H vs ds → RKs T K G' H' vs ds
  | _, _, .nil => .nil
  | _, _, .cons e r t => .cons e (r.monoV p) (RKs.monoV p t)
theorem RTs.monoV (p : PersV G H G' H') : ∀ {vs : List (List Key × V)} {ds : List (D × D)}, RTs T K G H vs ds → RTs T K G' H' vs ds
  | _, _, .nil => .nil
  | _, _, .cons e r t => .cons e (r.monoV p) (RTs.monoV p t)
theorem RFs.monoV (p : PersV G H G' H') : ∀ {vs : List (Str × V)} {ds : List (Str × D)}, RFs T K G H vs ds → RFs T K G' H' vs ds
  | _, _, .nil => .nil
  | _, _, .cons r t => .cons (r.monoV p) (RFs.monoV p t)
theorem SlotR.monoV {o : Option (Option V)} {x : Slot} (h : SlotR T K G H o x) (p : PersV G H G' H') (k : ∀ a u, o = some (some (.ref a)) → isOwn x = true → H a = some u → H' a = some u) : SlotR T K G' H' o x := by
  cases h with
  | no => exact .no _
  | va q => exact .va (q.monoV p)
  | ol e q => exact .ol (k _ _ rfl rfl e) (q.monoV p)
  | odK e q => exact .odK (k _ _ rfl rfl e) (q.monoV p)
  | odT e q => exact .odT (k _ _ rfl rfl e) (q.monoV p)
  | xo e q => exact .xo e ⟨q.1, q.2.imp id fun ⟨ne, dd, fv, e1, e2, r⟩ => ⟨ne, dd, fv, e1, p.xd _ _ e2, r.monoV p⟩⟩
theorem BxR.monoV {a : Addr} {x : Bx} (h : BxR T K G H a x) (p : PersV G H G' H') (k : ∀ u, H a = some u → H' a = some u) : BxR T K G' H' a x := by
  cases h with
  | ls e q => exact .ls (k _ e) (q.monoV p)
  | dcK e q => exact .dcK (k _ e) (q.monoV p)
  | dcT e q => exact .dcT (k _ e) (q.monoV p)
  | lkl e q => exact .lkl (k _ e) (q.monoV p)
  | lkK e q => exact .lkK (k _ e) (q.monoV p)
  | lkT e q => exact .lkT (k _ e) (q.monoV p)
  | ins e q => exact .ins (k _ e) (q.monoV p)
/-- the lock is laid on -/
theorem BxR.lock {a : Addr} {b b' : Bx} (h : BxR T K G H a b) (e : lkb b = some b') : ∃ u, H a = some u ∧ Mut (some u) ∧ ∀ od, Pers G H G (upd H a (.frz od u)) → BxR T K G (upd H a (.frz od u)) a b' := by
  cases h <;> first | (cases e; done) | skip
  case ls vs l e1 r => injection e with e; subst e; exact ⟨_, e1, trivial, fun od P => .lkl upd_same (r.mono P)⟩
  case dcK vs l e1 r => injection e with e; subst e; exact ⟨_, e1, trivial, fun od P => .lkK upd_same (r.mono P)⟩
  case dcT vs l e1 r => injection e with e; subst e; exact ⟨_, e1, trivial, fun od P => .lkT upd_same (r.mono P)⟩
theorem BxR.unlock {a : Addr} {b b' : Bx} {od : Obj} {u : HO} (h : BxR T K G H a b) (e : ulb b = some b') (e1 : H a = some (.frz od u)) (p : PersV G H G (upd H a u)) : BxR T K G (upd H a u) a b' := by
  cases h <;> first | (cases e; done) | skip
  case lkl vs l o e2 r => injection e with e; subst e; rw [e1] at e2; cases e2; exact .ls upd_same (r.monoV p)
  case lkK vs l o e2 r => injection e with e; subst e; rw [e1] at e2; cases e2; exact .dcK upd_same (r.monoV p)
  case lkT vs l o e2 r => injection e with e; subst e; rw [e1] at e2; cases e2; exact .dcT upd_same (r.monoV p)
variable {B : Bs} {s : S} {σ : St}
theorem unlock_persV {i : Nat} {a : Addr} {od : Obj} {u : HO} (hR : RelC T K G s.st H) (hi : G.io[i]? = some a) (e : H a = some (.frz od u)) : PersV G H G (upd H a u) :=
  ⟨fun _ _ h => h, fun _ h => h, fun c h => upd_ne fun z => hR.ioF a (List.mem_of_getElem? hi) (z ▸ h), fun c xs h => by rw [upd_ne (fun z => by rw [z, e] at h; cases h)]; exact h, fun c xs h => by rw [upd_ne (fun z => by rw [z, e] at h; cases h)]; exact h⟩
/-- the lock is taken off -/
theorem Rel.unlock {i : Nat} {a : Addr} {od : Obj} {u : HO} {b b' : Bx} (hR : Rel T K B G s σ H) (hi : G.io[i]? = some a) (hs : s.st[i]? = some b) (eb : ulb b = some b') (e : H a = some (.frz od u)) (hB : ∀ o v, B.H a ≠ some (.frz o v)) :
    Rel T K B G (setB s i b') σ (upd H a u) := by
  have P := unlock_persV (s := s) hR.c hi e
  have hm : a ∈ G.io := List.mem_of_getElem? hi
  refine ⟨hR.len, fun j x e1 => (hR.sl j x e1).monoV P fun c u e2 ho e3 => ?_, hR.own1, hR.own2, ⟨?_, fun j x c e1 e2 => ?_, hR.c.nd, hR.c.ioF, fun c h z => ?_⟩, ⟨⟨hR.b.p.io, hR.b.p.F, fun c h => ?_, fun c xs h => P.tup _ _ (hR.b.p.tup c xs h), fun c o v h => ?_, fun c fs h => P.xd _ _ (hR.b.p.xd c fs h)⟩, fun c u e1 n => ?_, fun c e1 z => ?_, hR.b.nio, hR.b.nF⟩⟩
  · rw [upd_ne]; exact e3
    rintro rfl
    exact (hR.own1 c ⟨j, ⟨x, e1, ho⟩, e2⟩).2.1 hm
  · show (s.st.set i b').length = _
    rw [List.length_set]; exact hR.c.len
  · have e1 : (s.st.set i b')[j]? = some x := e1
    by_cases hij : i = j
    · subst hij
      rw [hi] at e2; cases e2
      rw [List.getElem?_set_self (List.getElem?_eq_some_iff.mp hs).1] at e1
      cases e1
      exact (hR.c.bx i b _ hs hi).unlock eb e P
    · rw [List.getElem?_set_ne hij] at e1
      refine (hR.c.bx j x c e1 e2).monoV P fun u q => ?_
      rw [upd_ne]; exact q
      rintro rfl
      exact hij (nd_at hR.c.nd hi e2)
  · rw [upd_ne (by rintro rfl; exact hR.c.ioF c hm h)] at z
    exact hR.c.Fd c h z
  · rw [P.kF c (hR.b.p.F c h)]; exact hR.b.p.kF c h
  · rw [upd_ne (fun z => by subst z; exact hB o v h)]
    exact hR.b.p.frz c o v h
  · rw [upd_ne]; exact hR.b.keep c u e1 n
    rintro rfl
    rw [hR.b.nio c hm n] at e1; cases e1
  · by_cases h : c = a
    · subst h; rw [upd_same] at z; cases z
    · rw [upd_ne h] at z
      exact hR.b.dom c e1 z
/-- a step under a lock -/
theorem Stp.locked {i : Nat} {a : Addr} {u : HO} {b : Bx} {G2 : Gh} {s2 : S} {H2 : Hp} {od : Obj} {b2 : Bx} (hR : Rel T K B G s σ H) (hi : G.io[i]? = some a) (e : H a = some u) (mu : Mut (some u)) (st : Stp σ G (setB s i b) (upd H a (.frz od u)) G2 s2 H2) (R2 : RelC T K G2 s2.st H2) :
    H2 a = some (.frz od u) ∧ G2.io[i]? = some a ∧ Stp σ G s H G2 (setB s2 i b2) (upd H2 a u) := by
  have e2 : H2 a = some (.frz od u) := st.p.frz _ _ _ upd_same
  have i2 : G2.io[i]? = some a := st.p.io _ _ hi
  have hm : a ∈ G.io := List.mem_of_getElem? hi
  have P0 := box_pers (o' := .frz od u) hR.c hi e mu
  have PV := unlock_persV (s := s2) R2 i2 e2
  have ne : ∀ c, H c = none → c ≠ a := fun c h z => by rw [z, e] at h; cases h
  refine ⟨e2, i2, ⟨⟨fun j c h => st.p.io j c h, fun c h => st.p.F c h, fun c h => ?_, fun c xs h => PV.tup _ _ (st.p.tup _ _ (P0.tup _ _ h)), fun c o v h => ?_, fun c fs h => PV.xd _ _ (st.p.xd _ _ (P0.xd _ _ h))⟩, fun c v h n no => ?_, fun c h => ?_, fun c h n => ?_, fun c h n => ?_, fun c h => st.ow c h⟩⟩
  · rw [PV.kF c (st.p.F c h), st.p.kF c h, P0.kF c h]
  · have hc : c ≠ a := mut_ne e mu h (fun z => z)
    rw [upd_ne hc]
    exact st.p.frz _ _ _ (P0.frz _ _ _ h)
  · have hc : c ≠ a := fun z => n (z ▸ hm)
    rw [upd_ne hc]
    exact st.keep c v (by rw [upd_ne hc]; exact h) n no
  · by_cases hc : c = a
    · subst hc; rw [upd_same]; simp
    · rw [upd_ne hc]
      exact st.dom c (by rw [upd_ne hc]; exact h)
  · have hc : c ≠ a := fun z => n (z ▸ hm)
    rcases st.nio c h n with z | z
    · rw [upd_ne hc] at z; exact .inl z
    · exact .inr z
  · have hc : c ≠ a := fun z => R2.ioF a (List.mem_of_getElem? i2) (z ▸ h)
    rcases st.nF c h n with z | z
    · rw [upd_ne hc] at z; exact .inl z
    · exact .inr z
theorem RR.unlocked {i : Nat} {a : Addr} {u : HO} {G2 : Gh} {s2 : S} {H2 : Hp} {od : Obj} {b b2 : Bx} {ys : List D} {v : V} (hR : Rel T K B G s σ H) (hi : G.io[i]? = some a) (e : H a = some u) (st : Stp σ G (setB s i b) (upd H a (.frz od u)) G2 s2 H2) (R2 : RelC T K G2 s2.st H2)
    (r : RR T K B (setB s i b) (upd H a (.frz od u)) G2 s2 σ H2 v (.fl ys)) : RR T K B s H G2 (setB s2 i b2) σ (upd H2 a u) v (.fl ys) := by
  have i2 : G2.io[i]? = some a := st.p.io _ _ hi
  have e2 : H2 a = some (.frz od u) := st.p.frz _ _ _ upd_same
  have PV := unlock_persV (s := s2) R2 i2 e2
  cases r with
  | @fl c vs _ e1 rs f =>
    have hc : c ≠ a := fun z => f.nio (z ▸ List.mem_of_getElem? i2)
    refine .fl (by rw [upd_ne hc]; exact e1) (rs.monoV PV) ⟨f.nF, f.nio, f.now, f.bn, ?_⟩
    rcases f.st with z | z
    · rw [upd_ne hc] at z; exact .inl z
    · exact .inr z
end
/-! walks -/
section
variable {T : Tab} {K : PySem.W.Frag} {G : Gh} {H : Hp} {a : Addr} {o : Obj}
theorem walk_lkl {vs : List V} {l : List D} (h : H a = some (.frz o (.lst vs))) (r : RVs T K G H vs l) : WalkOf T K (Itl K a) l G H where
  go := fun i hi G' H' p => ⟨vs, vs[i]'(by rw [r.length]; exact hi), .inl (.inr ⟨o, p.frz _ _ _ h⟩), List.getElem?_eq_getElem _⟩
  stop := fun G' H' p => ⟨vs, .inl (.inr ⟨o, p.frz _ _ _ h⟩), by rw [r.length]; exact Nat.le_refl _⟩
  yld := fun i d hd G' H' x H'' p ⟨e, y⟩ => by
    subst e
    obtain ⟨v, h1, h2⟩ := (r.mono p).get hd
    have := y vs (.inl (.inr ⟨o, p.frz _ _ _ h⟩))
    rw [h1] at this
    cases this
    exact .same h2
theorem walk_lke {vs : List V} {l : List D} (h : H a = some (.frz o (.lst vs))) (r : RVs T K G H vs l) : WalkOf T K (Ite K a) (enumD 0 l) G H where
  go := fun i hi G' H' p => ⟨vs, vs[i]'(by rw [r.length]; rw [enumD_len] at hi; exact hi), .inl (.inr ⟨o, p.frz _ _ _ h⟩), List.getElem?_eq_getElem _⟩
  stop := fun G' H' p => ⟨vs, .inl (.inr ⟨o, p.frz _ _ _ h⟩), by rw [r.length, enumD_len]; exact Nat.le_refl _⟩
  yld := fun i d hd G' H' x H'' p ⟨t, y, e1, e2, e3, e4⟩ => by
    obtain ⟨e, h1, h2⟩ := enumD_get l 0 i d hd
    obtain ⟨v, h3, h4⟩ := (r.mono p).get h1
    have := e4 vs (.inl (.inr ⟨o, p.frz _ _ _ h⟩))
    rw [h3] at this
    cases this
    subst e1; subst e3; subst h2
    rw [Nat.zero_add]
    exact .tup e2 (.cons (.int _) (.cons h4 .nil))
theorem RKs.at {kvs : List (Key × V)} {l : List (D × D)} (h : RKs T K G H kvs l) : ∀ {i : Nat} {k : Key} {v : V}, kvs[i]? = some (k, v) → ∃ kd d, l[i]? = some (kd, d) ∧ dkey kd = some (.inl k) ∧ RV T K G H v d := by
  induction kvs generalizing l with
  | nil => intro i k v e; cases e
  | cons p q ih =>
    cases h with
    | @cons k' v' kd' d' _ ds e' rv t =>
      intro i k v e
      cases i with
      | zero => cases e; exact ⟨kd', d', rfl, e', rv⟩
      | succ i => exact ih t e
theorem RTs.at {kvs : List (List Key × V)} {l : List (D × D)} (h : RTs T K G H kvs l) : ∀ {i : Nat} {k : List Key} {v : V}, kvs[i]? = some (k, v) → ∃ kd d, l[i]? = some (kd, d) ∧ dkey kd = some (.inr k) ∧ RV T K G H v d := by
  induction kvs generalizing l with
  | nil => intro i k v e; cases e
  | cons p q ih =>
    cases h with
    | @cons k' v' kd' d' _ ds e' rv t =>
      intro i k v e
      cases i with
      | zero => cases e; exact ⟨kd', d', rfl, e', rv⟩
      | succ i => exact ih t e
theorem key_rv {kd : D} {k : Key} (e : dkey kd = some (.inl k)) : RV T K G H (kV k) kd := by
  cases kd <;> first | (cases e; done) | skip
  case int => injection e with e; injection e with e; subst e; exact .int _
  case str => injection e with e; injection e with e; subst e; exact .str _
  case tup l =>
    have e : (keysD l).map Sum.inr = some (Sum.inl k) := e
    cases h : keysD l with
    | none => rw [h] at e; cases e
    | some ks => rw [h] at e; injection e with e; cases e
theorem keys_rv : ∀ {l : List D} {ks : List Key}, keysD l = some ks → RVs T K G H (ks.map kV) l
  | [], _, e => by injection e with e; subst e; exact .nil
  | d :: ds, _, e => by
    unfold keysD at e
    split at e
    · rename_i k ks h1 h2
      injection e with e; subst e
      refine .cons ?_ (keys_rv h2)
      cases d <;> first | (cases h1; done) | (injection h1 with h1; subst h1; first | exact .int _ | exact .str _)
    · cases e
theorem tkey_rv {kd : D} {k : List Key} {b : Addr} (e : dkey kd = some (.inr k)) (hb : H b = some (.tup (k.map kV))) : RV T K G H (.ref b) kd := by
  cases kd <;> first | (cases e; done) | skip
  case tup l =>
    have e : (keysD l).map Sum.inr = some (Sum.inr k) := e
    cases h : keysD l with
    | none => rw [h] at e; cases e
    | some ks =>
      rw [h] at e; injection e with e; injection e with e; subst e
      exact .tup hb (keys_rv h)
theorem walk_lkK {kvs : List (Key × V)} {l : List (D × D)} (h : H a = some (.frz o (.dK kvs))) (r : RKs T K G H kvs l) : WalkOf T K (Itk a o kvs) (l.map (·.1)) G H where
  go := fun i hi G' H' p => ⟨p.frz _ _ _ h, by rw [List.length_map] at hi; rw [r.length]; exact hi⟩
  stop := fun G' H' p => ⟨p.frz _ _ _ h, by rw [List.length_map, r.length]; exact Nat.le_refl _⟩
  yld := fun i d hd G' H' x H'' p ⟨e, k, v, y, ex⟩ => by
    subst e; subst ex
    obtain ⟨kd, d', h1, h2, h3⟩ := r.at y
    rw [List.getElem?_map, h1] at hd
    cases hd
    exact .same (key_rv h2)
theorem walk_lkT {kvs : List (List Key × V)} {l : List (D × D)} (h : H a = some (.frz o (.dT kvs))) (r : RTs T K G H kvs l) : WalkOf T K (Itkt a o kvs) (l.map (·.1)) G H where
  go := fun i hi G' H' p => ⟨p.frz _ _ _ h, by rw [List.length_map] at hi; rw [r.length]; exact hi⟩
  stop := fun G' H' p => ⟨p.frz _ _ _ h, by rw [List.length_map, r.length]; exact Nat.le_refl _⟩
  yld := fun i d hd G' H' x H'' p ⟨e, k, v, q, y, ex, hq⟩ => by
    subst e; subst ex
    obtain ⟨kd, d', h1, h2, h3⟩ := r.at y
    rw [List.getElem?_map, h1] at hd
    cases hd
    exact .same (tkey_rv h2 hq)
theorem walk_lkV {kvs : List (Key × V)} {l : List (D × D)} (h : H a = some (.frz o (.dK kvs))) (r : RKs T K G H kvs l) : WalkOf T K (Itd a o kvs) (l.map (·.2)) G H where
  go := fun i hi G' H' p => ⟨p.frz _ _ _ h, by rw [List.length_map] at hi; rw [r.length]; exact hi⟩
  stop := fun G' H' p => ⟨p.frz _ _ _ h, by rw [List.length_map, r.length]; exact Nat.le_refl _⟩
  yld := fun i d hd G' H' x H'' p ⟨e, k, y⟩ => by
    subst e
    obtain ⟨kd, d', h1, h2, h3⟩ := (r.mono p).at y
    rw [List.getElem?_map, h1] at hd
    cases hd
    exact .same h3
theorem walk_lkI {kvs : List (Key × V)} {l : List (D × D)} (h : H a = some (.frz o (.dK kvs))) (r : RKs T K G H kvs l) : WalkOf T K (Iti a o kvs) (l.map pairT) G H where
  go := fun i hi G' H' p => ⟨p.frz _ _ _ h, by rw [List.length_map] at hi; rw [r.length]; exact hi⟩
  stop := fun G' H' p => ⟨p.frz _ _ _ h, by rw [List.length_map, r.length]; exact Nat.le_refl _⟩
  yld := fun i d hd G' H' x H'' p ⟨t, k, v, y, ex, et, e⟩ => by
    subst e; subst ex
    obtain ⟨kd, d', h1, h2, h3⟩ := (r.mono p).at y
    rw [List.getElem?_map, h1] at hd
    cases hd
    exact .tup et (.cons (key_rv h2) (.cons h3 .nil))
theorem walk_lkIT {kvs : List (List Key × V)} {l : List (D × D)} (h : H a = some (.frz o (.dT kvs))) (r : RTs T K G H kvs l) : WalkOf T K (Itit a o kvs) (l.map pairT) G H where
  go := fun i hi G' H' p => ⟨p.frz _ _ _ h, by rw [List.length_map] at hi; rw [r.length]; exact hi⟩
  stop := fun G' H' p => ⟨p.frz _ _ _ h, by rw [List.length_map, r.length]; exact Nat.le_refl _⟩
  yld := fun i d hd G' H' x H'' p ⟨t, k, v, q, y, ex, et, hq, e⟩ => by
    subst e; subst ex
    obtain ⟨kd, d', h1, h2, h3⟩ := (r.mono p).at y
    rw [List.getElem?_map, h1] at hd
    cases hd
    exact .tup et (.cons (tkey_rv h2 hq) (.cons h3 .nil))
end
section
variable {T : Tab} {B : Bs} {W : WX} {X : Cx}
theorem lk_at {c : S → Oc R} {G : Gh} {s s1 : S} {σ : St} {H : Hp} {r : R} {i : Nat} {b : Bx} {Q : VK} (hc : c s = .ok r s1) (hb : bxOf r s1 = some (i, b)) (k : ∀ G1 H1 a, Stp σ G s H G1 s1 H1 → Rel T X.K B G1 s1 σ H1 → BxR T X.K G1 H1 a b → Q (.ref a) H1) : At T X.K B W (PR T X.K B) (c s) G s σ H Q := by
  rw [hc]
  intro G1 H1 v st R1 r1
  obtain ⟨a, rfl, hi, hs, bx, _⟩ := box_at R1 r1 hb
  exact k G1 H1 a st R1 bx
/-- a locked thing, walked -/
theorem sI_lk {l : List (Nat × Str × Pos)} {k : Nat} {pt : Pos} {tg e : Expr} {c : S → Oc R} {w : Wk} {pa pc : Pos} (ht : w = .items ∨ w = .enum → tg = .Tuple (upNs l) k pt) (hen : w = .enum → Gl X "enumerate" ∧ X.mg "enumerate" = none ∧ starEach [e] X.env = (false, eval e X.env) :: starEach [] X.env) (he : PE X e (tE T X.K B W c)) (hb1 : attributeBase e "values" X.env (eval e X.env) = eval e X.env) (hb2 : attributeBase e "items" X.env (eval e X.env) = eval e X.env) (hline : w = .vals ∨ w = .items → (pa.endLine == pc.line) = true) :
    PI X tg (wkUp w e pa pc) (tI T X.K B W fun s => (c s).bind fun r s1 => opt (wkR w r s1) s1) := by
  have key : ∀ (σ : St) (H : Hp) (R' : It → Hp → Prop) (G : Gh) (s : S), IAt T X.K B W ((c s).bind fun r s1 => opt (wkR w r s1) s1) G s σ H R' → (∃ n fs s1, c s = .ex n fs s1 ∧ ∀ Q, At T X.K B W (PR T X.K B) (c s) G s σ H Q) ∨
      ∃ r s1 i b m, c s = .ok r s1 ∧ bxOf r s1 = some (i, b) ∧ wkB w b = some m ∧ ∀ G1 H1 J, Stp σ G s H G1 s1 H1 → Rel T X.K B G1 s1 σ H1 → WalkOf T X.K J m G1 H1 → R' J H1 := fun σ H R' G s q => by
    cases hc : c s with
    | bad => rw [hc] at q; exact q.elim
    | ex n fs s1 => rw [hc] at q; exact .inl ⟨n, fs, s1, rfl, fun Q => q⟩
    | ok r s1 =>
      rw [hc] at q
      have q : IAt T X.K B W (opt (wkR w r s1) s1) G s σ H R' := q
      cases hw : wkR w r s1 with
      | none => rw [hw] at q; exact q.elim
      | some m =>
        rw [hw] at q
        unfold wkR at hw
        split at hw
        · rename_i i b hb
          exact .inr ⟨r, s1, i, b, m, rfl, hb, hw, fun G1 H1 J st R1 wk => q G1 H1 J st R1 wk⟩
        · cases hw
  cases w with
  | keys =>
    refine pi_imp (pi_keys he) fun σ H R' ⟨G, s, hR, q⟩ => ⟨G, s, hR, ?_⟩
    rcases key σ H R' G s q with ⟨n, fs, s1, hc, q⟩ | ⟨r, s1, i, b, m, hc, hb, hw, fin⟩
    · exact q _
    · cases b <;> cases hw
  | seq =>
    refine pi_imp (pi_or (pi_list he) (pi_keys he)) fun σ H R' ⟨G, s, hR, q⟩ => ?_
    rcases key σ H R' G s q with ⟨n, fs, s1, hc, q⟩ | ⟨r, s1, i, b, m, hc, hb, hw, fin⟩
    · exact .inl ⟨G, s, hR, q _⟩
    · cases b <;> first | (cases hw; done) | skip
      · injection hw with hw; subst hw
        refine .inl ⟨G, s, hR, lk_at hc hb fun G1 H1 a st R1 bx => ?_⟩
        cases bx with
        | lkl e1 rv => exact ⟨a, rfl, ⟨_, .inl (.inr ⟨_, e1⟩)⟩, fin G1 H1 _ st R1 (walk_lkl e1 rv)⟩
      · injection hw with hw; subst hw
        refine .inr ⟨G, s, hR, lk_at hc hb fun G1 H1 a st R1 bx => ?_⟩
        cases bx with
        | lkK e1 rv => exact ⟨a, _, rfl, .inl ⟨_, e1, fin G1 H1 _ st R1 (walk_lkK e1 rv)⟩⟩
        | lkT e1 rv => exact ⟨a, _, rfl, .inr ⟨_, e1, fin G1 H1 _ st R1 (walk_lkT e1 rv)⟩⟩
  | vals =>
    refine pi_imp (pi_values he hb1 (hline (.inl rfl))) fun σ H R' ⟨G, s, hR, q⟩ => ⟨G, s, hR, ?_⟩
    rcases key σ H R' G s q with ⟨n, fs, s1, hc, q⟩ | ⟨r, s1, i, b, m, hc, hb, hw, fin⟩
    · exact q _
    · cases b <;> first | (cases hw; done) | skip
      rename_i t l
      cases t with
      | true => cases hw
      | false =>
        injection hw with hw; subst hw
        refine lk_at hc hb fun G1 H1 a st R1 bx => ?_
        cases bx with
        | lkK e1 rv => exact ⟨a, _, _, rfl, e1, fin G1 H1 _ st R1 (walk_lkV e1 rv)⟩
  | enum =>
    have ht := ht (.inr rfl)
    subst ht
    obtain ⟨hg, hm, hst⟩ := hen rfl
    refine pi_imp (pi_enum hg hm (pa_cons he pa_nil hst) hst) fun σ H R' ⟨G, s, hR, q⟩ => ⟨G, s, hR, ?_⟩
    rcases key σ H R' G s q with ⟨n, fs, s1, hc, q⟩ | ⟨r, s1, i, b, m, hc, hb, hw, fin⟩
    · exact q _
    · cases b <;> first | (cases hw; done) | skip
      injection hw with hw; subst hw
      refine lk_at hc hb fun G1 H1 a st R1 bx => ?_
      cases bx with
      | lkl e1 rv => exact ⟨a, _, rfl, .inl (.inr ⟨_, e1⟩), fin G1 H1 _ st R1 (walk_lke e1 rv)⟩
  | items =>
    have ht := ht (.inl rfl)
    subst ht
    refine pi_imp (pi_or (pi_items he hb2 (hline (.inr rfl))) (pi_itemsT he hb2 (hline (.inr rfl)))) fun σ H R' ⟨G, s, hR, q⟩ => ?_
    rcases key σ H R' G s q with ⟨n, fs, s1, hc, q⟩ | ⟨r, s1, i, b, m, hc, hb, hw, fin⟩
    · exact .inl ⟨G, s, hR, q _⟩
    · cases b <;> first | (cases hw; done) | skip
      rename_i t l
      injection hw with hw; subst hw
      cases t with
      | false =>
        refine .inl ⟨G, s, hR, lk_at hc hb fun G1 H1 a st R1 bx => ?_⟩
        cases bx with
        | lkK e1 rv => exact ⟨a, _, _, rfl, e1, fin G1 H1 _ st R1 (walk_lkI e1 rv)⟩
      | true =>
        refine .inr ⟨G, s, hR, lk_at hc hb fun G1 H1 a st R1 bx => ?_⟩
        cases bx with
        | lkT e1 rv => exact ⟨a, _, _, rfl, e1, fin G1 H1 _ st R1 (walk_lkIT e1 rv)⟩
end
end BB

namespace BB
open PySem PySem.Spec PyProof.Rows L2
section
variable {T : Tab} {B : Bs} {W : WX} {X : Cx}
theorem Oc.bind_assoc {α β γ : Type} (o : Oc α) (f : α → S → Oc β) (g : β → S → Oc γ) : (o.bind f).bind g = o.bind fun a s => (f a s).bind g := by cases o <;> rfl
/-- what the walk's start locks -/
theorem lkS_ok {r : R} {s s0 : S} {u : Option Nat} (h : lkS r s = some (s0, u)) : (s0 = s ∧ u = none) ∨ ∃ i b b', s.st[i]? = some b ∧ lkb b = some b' ∧ s0 = setB s i b' ∧ u = some i := by
  unfold lkS at h
  split at h
  · rename_i i b hb
    have hs : s.st[i]? = some b := by
      unfold bxOf at hb
      split at hb
      · rename_i j
        cases e : s.st[j]? with
        | none => rw [e] at hb; cases hb
        | some b' => rw [e] at hb; injection hb with hb; injection hb with h1 h2; subst h1; subst h2; exact e
      · cases hb
    split at h
    · rename_i b' hl
      injection h with h; injection h with h1 h2
      exact .inr ⟨i, b, b', hs, hl, h1.symm, h2.symm⟩
    · cases hu : ulb b with
      | none => rw [hu] at h; cases h
      | some b' => rw [hu] at h; injection h with h; injection h with h1 h2; exact .inl ⟨h1.symm, h2.symm⟩
  · cases h
theorem noFrz {G : Gh} {s : S} {σ : St} {H : Hp} {a : Addr} {u : HO} (hR : Rel T X.K B G s σ H) (e : H a = some u) (mu : Mut (some u)) : ∀ o v, B.H a ≠ some (.frz o v) := fun o v z => by
  have := hR.b.p.frz a o v z
  rw [e] at this
  cases this
  exact mu
theorem unlS_ok {i : Nat} {s s1 : S} (h : unlS (some i) s = some s1) : ∃ b b', s.st[i]? = some b ∧ ulb b = some b' ∧ s1 = setB s i b' := by
  unfold unlS at h
  dsimp only at h
  split at h
  · rename_i b hb
    cases hu : ulb b with
    | none => rw [hu] at h; cases h
    | some b' => rw [hu] at h; injection h with h; exact ⟨b, b', hb, hu, h.symm⟩
  · cases h
theorem lcl_fin {o : Oc (List D)} {i : Nat} {b : Bx} {a : Addr} {u : HO} {od : Obj} {G : Gh} {s : S} {σ : St} {H : Hp} {Q : VK} (hR : Rel T X.K B G s σ H) (hi : G.io[i]? = some a) (e : H a = some u) (mu : Mut (some u))
    (q : At T X.K B W (PR T X.K B) (o.bind (unlR (some i))) G s σ H Q) : At T X.K B W (PR T X.K B) (o.bind fun ys s2 => .ok (.fl ys) s2) G (setB s i b) σ (upd H a (.frz od u)) fun v H' => H' a = some (.frz od u) ∧ Q v (upd H' a u) := by
  cases o with
  | bad => exact q
  | ex n fs s1 => exact fun G' H' cls d p R x => q G' H' cls d ((box_pers hR.c hi e mu).trans p) R x
  | ok ys s2 =>
    intro G' H' v st R' r'
    have q : At T X.K B W (PR T X.K B) (unlR (some i) ys s2) G s σ H Q := q
    unfold unlR at q
    split at q
    · rename_i s3 h3
      obtain ⟨b2, b3, hs2, hu, rfl⟩ := unlS_ok h3
      obtain ⟨l1, l2, l3⟩ := Stp.locked (b2 := b3) hR hi e mu st R'.c
      exact ⟨l1, q G' _ v l3 (R'.unlock l2 hs2 hu l1 (noFrz hR e mu)) (RR.unlocked hR hi e st R'.c r')⟩
    · exact q.elim
theorem sE_lcl {E : Expr} {c : S → Oc R} {w : Wk} {tg : Tg} {ci : S → Oc Bool} {ce : S → Oc R} {vs : List Nat} {t : TE} (h : PE X E t)
    (conv : ∀ σ H Q, (tE T X.K B W fun s => ((c s).bind fun r s1 => opt (wkR w r s1) s1).bind fun l s1 => (lcTurns (lcTurn tg ci ce vs) l [] (BB.wipeE s1 vs)).bind fun ys s2 => .ok (.fl ys) s2) σ H Q → t σ H Q) :
    PE X E (tE T X.K B W fun s => match c s with
    | .ok r _ => match lkS r s with
      | some (s0, u) => (c s0).bind fun r1 s1 => (opt (wkR w r1 s1) s1).bind fun l s1 => (lcTurns (lcTurn tg ci ce vs) l [] (BB.wipeE s1 vs)).bind (unlR u)
      | none => .bad
    | _ => .bad) := by
  refine ⟨fun pins s σ H Q I ⟨G, S0, hR, q⟩ => ?_⟩
  dsimp only at q
  split at q
  · rename_i r sx hc
    split at q
    · rename_i s0 u hl
      have as : ∀ u, ((c s0).bind fun r1 s1 => (opt (wkR w r1 s1) s1).bind fun l s1 => (lcTurns (lcTurn tg ci ce vs) l [] (BB.wipeE s1 vs)).bind (unlR u)) = (((c s0).bind fun r s1 => opt (wkR w r s1) s1).bind fun l s1 => lcTurns (lcTurn tg ci ce vs) l [] (BB.wipeE s1 vs)).bind (unlR u) := fun u => by
        cases c s0 <;> first | rfl | skip
        rename_i r1 s1
        show (opt (wkR w r1 s1) s1).bind _ = ((opt (wkR w r1 s1) s1).bind _).bind _
        cases wkR w r1 s1 <;> rfl
      have as2 : (((c s0).bind fun r s1 => opt (wkR w r s1) s1).bind fun l s1 => (lcTurns (lcTurn tg ci ce vs) l [] (BB.wipeE s1 vs)).bind fun ys s2 => Oc.ok (R.fl ys) s2) = (((c s0).bind fun r s1 => opt (wkR w r s1) s1).bind fun l s1 => lcTurns (lcTurn tg ci ce vs) l [] (BB.wipeE s1 vs)).bind fun ys s2 => Oc.ok (R.fl ys) s2 := by
        cases c s0 <;> first | rfl | skip
        rename_i r1 s1
        show (opt (wkR w r1 s1) s1).bind _ = ((opt (wkR w r1 s1) s1).bind _).bind _
        cases wkR w r1 s1 <;> rfl
      rw [as u] at q
      rcases lkS_ok hl with ⟨rfl, rfl⟩ | ⟨i, b, b', hs, hb, rfl, rfl⟩
      · refine h.run pins s σ H Q I (conv σ H Q ⟨G, s0, hR, ?_⟩)
        dsimp only
        rw [as2]
        exact q
      · have hi : ∃ a, G.io[i]? = some a := ⟨_, List.getElem?_eq_getElem (by rw [← hR.c.len]; exact (List.getElem?_eq_some_iff.mp hs).1)⟩
        obtain ⟨a, hi⟩ := hi
        obtain ⟨u, e, mu, lk⟩ := (hR.c.bx i b a hs hi).lock hb
        refine (pe_lock h).run pins s σ H Q I ⟨a, u, e, mu, fun od => conv σ _ _ ⟨G, setB S0 i b', hR.boxw hi e mu (lk od), ?_⟩⟩
        dsimp only
        rw [as2]
        exact lcl_fin hR hi e mu q
    · exact q.elim
  · exact q.elim
theorem RX.unlocked {i : Nat} {a : Addr} {u : HO} {G2 : Gh} {s2 : S} {H2 : Hp} {od : Obj} {v : V} {r : R} (R2 : RelC T X.K G2 s2.st H2) (i2 : G2.io[i]? = some a) (e2 : H2 a = some (.frz od u)) (x : RX T X.K B G2 H2 v r) : RX T X.K B G2 (upd H2 a u) v r := by
  have PV := unlock_persV (s := s2) R2 i2 e2
  have ne : ∀ c, c ∉ G2.io → c ≠ a := fun c h z => h (z ▸ List.mem_of_getElem? i2)
  cases x with
  | va q => exact .va (q.monoV PV)
  | fl e q n1 n2 n3 => exact .fl (by rw [upd_ne (ne _ n2)]; exact e) (q.monoV PV) n1 n2 n3
  | fdK e q n1 n2 n3 => exact .fdK (by rw [upd_ne (ne _ n2)]; exact e) (q.monoV PV) n1 n2 n3
  | fdT e q n1 n2 n3 => exact .fdT (by rw [upd_ne (ne _ n2)]; exact e) (q.monoV PV) n1 n2 n3
  | own => exact .own
theorem pers_locked {i : Nat} {a : Addr} {u : HO} {G G2 : Gh} {s s2 : S} {H H2 : Hp} {od : Obj} {σ : St} (hR : Rel T X.K B G s σ H) (hi : G.io[i]? = some a) (e : H a = some u) (mu : Mut (some u)) (P : Pers G (upd H a (.frz od u)) G2 H2) (R2 : RelC T X.K G2 s2.st H2) : Pers G H G2 (upd H2 a u) := by
  have e2 : H2 a = some (.frz od u) := P.frz _ _ _ upd_same
  have i2 : G2.io[i]? = some a := P.io _ _ hi
  have P0 := box_pers (o' := .frz od u) hR.c hi e mu
  have PV := unlock_persV (s := s2) R2 i2 e2
  refine ⟨fun j c h => P.io j c h, fun c h => P.F c h, fun c h => ?_, fun c xs h => PV.tup _ _ (P.tup _ _ (P0.tup _ _ h)), fun c o v h => ?_, fun c fs h => PV.xd _ _ (P.xd _ _ (P0.xd _ _ h))⟩
  · rw [PV.kF c (P.F c h), P.kF c h, P0.kF c h]
  · rw [upd_ne (mut_ne e mu h (fun z => z))]
    exact P.frz _ _ _ (P0.frz _ _ _ h)
theorem sS_lk {E : Stmt} {c : S → Oc R} {F : S → Fl} (h : PS X E (tS T X.K B W F)) :
    PS X E (tS T X.K B W fun s => match c s with
    | .ok r _ => match lkS r s with
      | some (s0, u) => unlF u (F s0)
      | none => .bad
    | _ => .bad) := by
  refine ⟨fun pins s σ H De I ⟨G, S0, hR, q⟩ => ?_⟩
  dsimp only at q
  split at q
  · rename_i r sx hc
    split at q
    · rename_i s0 u hl
      rcases lkS_ok hl with ⟨rfl, rfl⟩ | ⟨i, b, b', hs, hb, rfl, rfl⟩
      · refine h.run pins s σ H De I ⟨G, s0, hR, ?_⟩
        revert q
        cases F s0 with
        | bk s1 => exact fun q => q.elim
        | ct s1 => exact fun q => q.elim
        | bad => exact fun q => q
        | nx s1 => exact fun q => q
        | rt r s1 => exact fun q => q
        | ex n fs s1 => exact fun q => q
      · have hi : ∃ a, G.io[i]? = some a := ⟨_, List.getElem?_eq_getElem (by rw [← hR.c.len]; exact (List.getElem?_eq_some_iff.mp hs).1)⟩
        obtain ⟨a, hi⟩ := hi
        obtain ⟨u, e, mu, lk⟩ := (hR.c.bx i b a hs hi).lock hb
        refine (ps_lock h).run pins s σ H De I ⟨a, u, e, mu, fun od => ⟨G, setB S0 i b', hR.boxw hi e mu (lk od), ?_⟩⟩
        revert q
        cases F (setB S0 i b') with
        | bk s1 => exact fun q => q.elim
        | ct s1 => exact fun q => q.elim
        | bad => exact fun q => q
        | ex n fs s1 => exact fun q G' σ' H' cls d P R x => q G' σ' H' cls d ((box_pers hR.c hi e mu).trans P) R x
        | nx s1 =>
          intro q G' σ' H' P R
          have q : FAt T X.K B W (nxO (unlS (some i) s1)) G H De := q
          unfold nxO at q
          split at q
          · rename_i s3 h3
            obtain ⟨b2, b3, hs2, hu, rfl⟩ := unlS_ok h3
            have e2 : H' a = some (.frz od u) := P.frz _ _ _ upd_same
            exact ⟨e2, q G' σ' _ (pers_locked hR hi e mu P R.c) (R.unlock (P.io _ _ hi) hs2 hu e2 (noFrz hR e mu))⟩
          · exact q.elim
        | rt r s1 =>
          intro q G' σ' H' v P R x
          have q : FAt T X.K B W (match unlS (some i) s1 with | some s2 => .rt r s2 | none => .bad) G H De := q
          split at q
          · rename_i s3 h3
            obtain ⟨b2, b3, hs2, hu, rfl⟩ := unlS_ok h3
            have e2 : H' a = some (.frz od u) := P.frz _ _ _ upd_same
            exact ⟨e2, q G' σ' _ v (pers_locked hR hi e mu P R.c) (R.unlock (P.io _ _ hi) hs2 hu e2 (noFrz hR e mu)) (x.unlocked R.c (P.io _ _ hi) e2)⟩
          · exact q.elim
    · exact q.elim
  · exact q.elim
end
end BB

namespace BB
open PySem PySem.Spec PyProof.Rows L2
section
variable {T : Tab} {K : PySem.W.Frag} {G : Gh} {H : Hp}
theorem RKs.drop {kvs : List (Key × V)} {l : List (D × D)} (h : RKs T K G H kvs l) (k : Key) : RKs T K G H (dropK kvs k) (dropD k l) := by
  induction kvs generalizing l with
  | nil => cases h; exact .nil
  | cons p r ih =>
    cases h with
    | @cons k' v kd d _ ds e rv t =>
      have ih := ih t
      unfold dropK dropD at *
      by_cases c : k' = k
      · subst c
        rw [List.filter_cons_of_neg (by simp), List.filter_cons_of_neg (by simp [e])]
        exact ih
      · rw [List.filter_cons_of_pos (by simp [c]), List.filter_cons_of_pos (by simp [e, c])]
        exact .cons e rv ih
end
section
variable {T : Tab} {B : Bs} {W : WX} {X : Cx}
/-- l.clear() -/
theorem sS_mclr {o : Expr} {co : S → Oc R} {pa pc p : Pos} (ho : PE X o (tE T X.K B W co)) (hbase : attributeBase o "clear" X.env (eval o X.env) = eval o X.env) (hline : (pa.endLine == pc.line) = true) :
    PS X (.Expr (.Call (.Attribute o "clear" pa) [] [] pc) p) (tS T X.K B W fun s => (co s).fl fun x s1 => if isL x s1 = true then nxO (chg clrB x s1) else .bad) := by
  refine ps_imp (ps_expr (pe_bm0 PySem.F.plainAttrs_list PySem.F.slot_list_clear PySem.F.type_list_clear mt_clear ho hbase hline)) fun De σ H ⟨G, s, hR, q⟩ => ?_
  refine ⟨G, s, hR, f_bind (P := PR T X.K B) q (.refl _ _) fun x s1 G1 H1 v st p1 R1 r1 q1 => ?_⟩
  split at q1
  · rename_i hl
    obtain ⟨a, vs, rfl, e1⟩ := isL_ok R1 r1 hl
    unfold nxO at q1
    split at q1
    · rename_i s3 hc
      obtain ⟨a', b, b', o, ea, hf, hb, e2, mu, fin⟩ := chg_ok R1 r1 hc (fun l => rfl) (fun t l => rfl)
      cases ea
      cases hb with
      | @ls xs l e3 r =>
        injection hf with hf; subst hf
        obtain ⟨f1, f2, f3⟩ := fin (.lst []) fun P => .ls upd_same .nil
        exact ⟨.inl ⟨rfl, _, .inl (.inl e1)⟩, a, xs, rfl, rfl, e3, q1 _ _ _ f2 f1⟩
      | _ => cases hf
    · exact q1.elim
  · exact q1.elim
theorem dk_isD {G : Gh} {s0 s : S} {σ : St} {H0 H : Hp} {v : V} {x : R} (hR : Rel T X.K B G s σ H) (r : RR T X.K B s0 H0 G s σ H v x) (e : (dkV (view s x)).isSome = true) : ∃ a, v = .ref a ∧ L2.IsD H a := by
  cases h : view s x with
  | none => rw [h] at e; cases e
  | some w =>
    have vw := view_ok hR r h
    rw [h] at e
    cases vw with
    | dcK a _ => exact ⟨_, rfl, .inl ⟨_, .inl a⟩⟩
    | _ => cases e
theorem dpop_at {G0 G : Gh} {s0 s sx sy : S} {σ : St} {H0 H Hx Hy : Hp} {v w : V} {x y : R} {z : Option R} {Q : VK} (hR : Rel T X.K B G s σ H) (p0 : Stp σ G0 s0 H0 G s H) (rx : RR T X.K B sx Hx G s σ H v x) (ry : RR T X.K B sy Hy G s σ H w y)
    (q : At T X.K B W (PR T X.K B) (dpopR x y z s) G0 s0 σ H0 Q) : ∃ a kvs k, v = .ref a ∧ H a = some (.dK kvs) ∧ w = kV k ∧ (∀ u, valV kvs k = some u → Q u (upd H a (.dK (dropK kvs k)))) ∧ (valV kvs k = none → ∃ r, z = some r ∧ At T X.K B W (PR T X.K B) (.ok r s) G0 s0 σ H0 Q) := by
  unfold dpopR at q
  split at q
  · rename_i l k hl hk
    cases hv : view s x with
    | none => rw [hv] at hl; cases hl
    | some vw =>
      rw [hv] at hl
      have vw' := view_ok hR rx hv
      cases vw' with
      | @dcK a kvs l' ea rk =>
        injection hl with hl; subst hl
        have hw : w = kV k := by
          cases hy : keepR y with
          | none => rw [hy] at hk; cases hk
          | some d =>
            rw [hy] at hk
            have rv := ry.kept (A := fun _ => True) hy fun _ _ => trivial
            exact key_of (dkey_of hk) rv
        refine ⟨a, kvs, k, rfl, ea, hw, fun u hu => ?_, fun hu => ?_⟩
        · rcases rk.get k with ⟨g1, g2⟩ | ⟨v', d, g1, g2, g3⟩
          · rw [hu] at g1; cases g1
          · rw [hu] at g1; injection g1 with g1; subst g1
            rw [g2] at q
            dsimp only at q
            split at q
            · rename_i s1 hc
              obtain ⟨a', b, b', o, e1, hf, hb, e2, mu, fin⟩ := chg_ok hR rx hc (fun l => rfl) (fun t l => by cases t <;> rfl)
              cases e1
              cases hb with
              | @dcK vs l2 e3 r =>
                injection hf with hf; subst hf
                rw [ea] at e3; cases e3
                obtain ⟨f1, f2, f3⟩ := fin (.dK (dropK kvs k)) fun P => .dcK upd_same ((r.mono P).drop k)
                exact q _ _ _ (p0.trans f3) f1 (.va (g3.mono f2))
              | _ => cases hf
            · exact q.elim
        · rcases rk.get k with ⟨g1, g2⟩ | ⟨v', d, g1, g2, g3⟩
          · rw [g2] at q
            dsimp only at q
            cases z with
            | none => exact q.elim
            | some r => exact ⟨r, rfl, q⟩
          · rw [hu] at g1; cases g1
      | _ => cases hl
  · exact q.elim
theorem sE_dpop1 {o e : Expr} {co ca : S → Oc R} {pa p : Pos} (ho : PE X o (tE T X.K B W co)) (ha : PE X e (tE T X.K B W ca)) (m : M1 X o "pop" pa e p) : PE X (.Call (.Attribute o "pop" pa) [e] [] p) (tE T X.K B W fun s => (co s).bind fun x s1 => if (dkV (view s1 x)).isSome = true then (ca s1).bind fun y s2 => dpopR x y none s2 else .bad) := by
  refine pe_imp (pe_dpop1 ho ha m) fun σ H Q ⟨G, s, hR, q⟩ => ?_
  refine ⟨G, s, hR, at_bind q (.refl _ _ _ _) fun x s1 G1 H1 v1 st1 z1 R1 p1 q1 => ?_⟩
  split at q1
  · rename_i hd
    obtain ⟨a, rfl, isD⟩ := dk_isD R1 p1 hd
    refine ⟨a, rfl, isD, G1, s1, R1, at_bind q1 z1 fun y s2 G2 H2 v2 st2 z2 R2 p2 q2 => ?_⟩
    obtain ⟨a', kvs, k, ea, e1, ek, h1, h2⟩ := dpop_at R2 z2 (RR.mono p1 st2) p2 q2
    cases ea
    cases hv : valV kvs k with
    | none =>
      obtain ⟨r, er, _⟩ := h2 hv
      cases er
    | some u => exact ⟨kvs, k, u, e1, ek, hv, h1 u hv⟩
  · exact q1.elim
theorem sE_dpop2 {o e f : Expr} {co ca cb : S → Oc R} {pa p : Pos} (ho : PE X o (tE T X.K B W co)) (ha : PE X e (tE T X.K B W ca)) (hb : PE X f (tE T X.K B W cb)) (m : M2 X o "pop" pa e f p) : PE X (.Call (.Attribute o "pop" pa) [e, f] [] p) (tE T X.K B W fun s => (co s).bind fun x s1 => if (dkV (view s1 x)).isSome = true then (ca s1).bind fun y s2 => (cb s2).bind fun z s3 => dpopR x y (some z) s3 else .bad) := by
  refine pe_imp (pe_dpop2 ho ha hb m) fun σ H Q ⟨G, s, hR, q⟩ => ?_
  refine ⟨G, s, hR, at_bind q (.refl _ _ _ _) fun x s1 G1 H1 v1 st1 z1 R1 p1 q1 => ?_⟩
  split at q1
  · rename_i hd
    obtain ⟨a, rfl, isD⟩ := dk_isD R1 p1 hd
    refine ⟨a, rfl, isD, G1, s1, R1, at_bind q1 z1 fun y s2 G2 H2 v2 st2 z2 R2 p2 q2 => ⟨G2, s2, R2, at_bind q2 z2 fun z s3 G3 H3 v3 st3 z3 R3 p3 q3 => ?_⟩⟩
    obtain ⟨a', kvs, k, ea, e1, ek, h1, h2⟩ := dpop_at R3 z3 (RR.mono (RR.mono p1 st2) st3) (RR.mono p2 st3) q3
    cases ea
    refine ⟨kvs, k, e1, ek, h1, fun hn => ?_⟩
    obtain ⟨r, er, q4⟩ := h2 hn
    cases er
    exact q4 _ _ _ z3 R3 (p3.back z2)
  · exact q1.elim
end
end BB

namespace BB
open PySem PySem.Spec PyProof.Rows L2
/-! l.count(x), l.index(x) -/
def rCnt (K : PySem.W.Frag) : V → List V → Hp → VK → Prop := fun x xs H Q => ∃ (p : Addr) (ys : List V) (y : V), x = .ref p ∧ xs = [y] ∧ SqL K H p ys ∧ flatV y = true ∧ ys.all flatV = true ∧ Q (.int (ys.countP fun z => eqV z y : Nat)) H
section
variable {X : Cx}
theorem countP_eq {y : V} : ∀ {xs : List V} {us : List Value}, Vals xs us → xs.all flatV = true → us.countP (eqU y) = xs.countP fun z => eqV z y
  | _, _, .nil, _ => rfl
  | x :: xs, u :: us, .cons r t, f => by
    rw [List.all_cons, Bool.and_eq_true] at f
    rw [List.countP_cons, List.countP_cons, countP_eq t f.2, eqU_of r f.1]
theorem mt_cnt : MtR X "list.count" (rCnt X.K) := by
  intro pins s σ H x xs v us Q I rx rxs ⟨p, ys, y, ex, exs, hs, fy, fys, q⟩
  subst ex exs
  cases rx
  obtain ⟨u, rfl, ru⟩ := rxs.one
  obtain ⟨its, rv, ⟨⟨cls, dd, data, sl⟩, n, ho, hc, hdn, hd⟩, _⟩ := I.list hs
  dsimp only at hc hd
  subst hc hd
  refine call_meets PySem.F.slot_list_count ⟨_, ho, rfl⟩ PySem.F.entry_list_count (PySem.F.args_list_count_2 _ _) (SeqAt.list_countAt p its.toArray n dd sl u (eqU y)) ⟨ho, fun w hw => mem_eqAt ru fy rv fys w (by simpa using hw), ?_⟩
  have ec : its.toArray.toList.countP (eqU y) = ys.countP fun z => eqV z y := countP_eq rv fys
  refine ⟨.int (ys.countP fun z => eqV z y : Nat), H, I.tok _, ⟨s.toks, ?_⟩, q⟩
  show Value.int ((its.toArray.toList.countP (eqU y) : Nat) : Int) s.toks = _
  rw [ec]
end
section
variable {T : Tab} {B : Bs} {W : WX} {X : Cx}
theorem lsW_ok {G : Gh} {s0 s : S} {σ : St} {H0 H : Hp} {v : V} {x : R} (hR : Rel T X.K B G s σ H) (r : RR T X.K B s0 H0 G s σ H v x) (e : lsW (view s x) = true) : ∃ a vs, v = .ref a ∧ Rd H a (.lst vs) := by
  cases h : view s x with
  | none => rw [h] at e; cases e
  | some w =>
    have vw := view_ok hR r h
    rw [h] at e
    cases vw with
    | ls a _ => exact ⟨_, _, rfl, a⟩
    | _ => cases e
theorem findIdx_split {α : Type} {p : α → Bool} : ∀ {l : List α} {j : Nat}, l.findIdx? p = some j → ∃ z, l[j]? = some z ∧ p z = true ∧ ∀ (m : Nat) (z' : α), m < j → l[m]? = some z' → p z' = false := fun {l j} h => by
  obtain ⟨hj, h1, h2⟩ := List.findIdx?_eq_some_iff_getElem.mp h
  exact ⟨l[j], List.getElem?_eq_getElem hj, h1, fun m z' hm e => by
    obtain ⟨hm', e⟩ := List.getElem?_eq_some_iff.mp e
    subst e
    simpa using h2 m hm⟩
theorem sE_lme {b : Bool} {o e : Expr} {co ca : S → Oc R} {pa p : Pos} (ho : PE X o (tE T X.K B W co)) (ha : PE X e (tE T X.K B W ca)) (hbase : ∀ n, attributeBase o n X.env (eval o X.env) = eval o X.env) (hst : starEach [e] X.env = (false, eval e X.env) :: starEach [] X.env) (hline : (pa.endLine == p.line) = true) :
    PE X (.Call (.Attribute o (if b = true then "count" else "index") pa) [e] [] p) (tE T X.K B W fun s => (co s).bind fun x s1 => if lsW (view s1 x) = true then (ca s1).bind fun y s2 => opt (lmeV b (view s2 x) (view s2 y)) s2 else .bad) := by
  have hpl : (backTo p (starEach [] X.env)).any (·.1) = false := rfl
  have hfew : ((backTo p (starEach [e] X.env)).all (fun x => !x.1) && (backToKw p (keywordEach [] X.env)).all (fun x => x.1.isSome)
      && decide (([e] : List Expr).length + ([] : List Keyword).length + (if ([] : List Keyword).isEmpty then 0 else 1) < 30)) = true := by rw [hst]; rfl
  cases b with
  | true =>
    refine pe_imp (pe_bm PySem.F.plainAttrs_list PySem.F.slot_list_count PySem.F.type_list_count mt_cnt ho (pa_cons ha pa_nil hst) (hbase _) hfew hline hst hpl) fun σ H Q ⟨G, s, hR, q⟩ => ⟨G, s, hR, at_bind q (.refl _ _ _ _) fun x s1 G1 H1 v1 st1 z1 R1 p1 q1 => ?_⟩
    split at q1
    · rename_i hl
      obtain ⟨a, vs, rfl, e1⟩ := lsW_ok R1 p1 hl
      refine ⟨.inl ⟨rfl, _, .inl e1⟩, G1, s1, R1, at_bind q1 z1 fun y s2 G2 H2 v2 st2 z2 R2 p2 q2 => ?_⟩
      obtain ⟨r, hr, q3⟩ := opt_at q2
      unfold lmeV at hr
      split at hr
      · rename_i l d hv hw
        split at hr
        · rename_i w ws h1 h2
          split at hr
          · rename_i hf
            rw [if_pos rfl] at hr
            injection hr with hr
            subst hr
            cases view_ok R2 (RR.mono p1 st2) hv with
            | ls e2 rv =>
              obtain ⟨rfl, al⟩ := flats_of rv h2
              cases view_ok R2 p2 hw with
              | «at» rd =>
                have ev := rd.scal h1
                subst ev
                exact ⟨_, _, _, rfl, rfl, .inl e2, hf, al, at_new q3 z2 R2 (.same (.int _))⟩
          · cases hr
        · cases hr
      · cases hr
    · exact q1.elim
  | false =>
    refine pe_imp (pe_bm PySem.F.plainAttrs_list PySem.F.slot_list_index PySem.F.type_list_index mt_index ho (pa_cons ha pa_nil hst) (hbase _) hfew hline hst hpl) fun σ H Q ⟨G, s, hR, q⟩ => ⟨G, s, hR, at_bind q (.refl _ _ _ _) fun x s1 G1 H1 v1 st1 z1 R1 p1 q1 => ?_⟩
    split at q1
    · rename_i hl
      obtain ⟨a, vs, rfl, e1⟩ := lsW_ok R1 p1 hl
      refine ⟨.inl ⟨rfl, _, .inl e1⟩, G1, s1, R1, at_bind q1 z1 fun y s2 G2 H2 v2 st2 z2 R2 p2 q2 => ?_⟩
      obtain ⟨r, hr, q3⟩ := opt_at q2
      unfold lmeV at hr
      split at hr
      · rename_i l d hv hw
        split at hr
        · rename_i w ws h1 h2
          split at hr
          · rename_i hf
            rw [if_neg Bool.false_ne_true] at hr
            split at hr
            · rename_i j hj
              injection hr with hr
              subst hr
              cases view_ok R2 (RR.mono p1 st2) hv with
              | ls e2 rv =>
                obtain ⟨rfl, al⟩ := flats_of rv h2
                cases view_ok R2 p2 hw with
                | «at» rd =>
                  have ev := rd.scal h1
                  subst ev
                  obtain ⟨z, g1, g2, g3⟩ := findIdx_split hj
                  exact ⟨_, _, _, j, z, rfl, rfl, .inl e2, hf, al, g1, g2, g3, at_new q3 z2 R2 (.same (.int _))⟩
            · cases hr
          · cases hr
        · cases hr
      · cases hr
    · exact q1.elim
end
/-! isinstance of a caught error -/
def XdAt (d : Option Addr) (H : Hp) : Prop := d = none ∨ ∃ dd fs, d = some dd ∧ H dd = some (.xd fs)
def rIsG (K : PySem.W.Frag) (D a : Addr) (d : Option Addr) : List V → Hp → VK → Prop := fun xs H Q => ∃ (c : V) (cv : Value) (b : Bool), xs = [.ref a, c] ∧ (∀ u, RelV c u → u = cv) ∧ PySem.W.kitOne K (.ref D) cv = some b ∧ XdAt d H ∧ Q (.bl b) H
def rIsT (K : PySem.W.Frag) (D a : Addr) (d : Option Addr) : List V → Hp → VK → Prop := fun xs H Q => ∃ (tp : Addr) (cs : List Addr) (b : Bool), xs = [.ref a, .ref tp] ∧ SqT K H tp (cs.map V.ref) ∧ PySem.W.kitAny K (.ref D) (cs.map Value.ref) = some b ∧ XdAt d H ∧ Q (.bl b) H
section
variable {X : Cx} {a D : Addr} {oe : Obj} {d : Option Addr}
theorem kitx_pin {pins : List (Addr × Obj)} {σ : St} {H : Hp} {s : Shared} (I : Inv X pins σ H s) (hp : (a, oe) ∈ X.pn) (C : ExcC X.K D) (hz : Zc (.ref D) d oe) (hf : ∃ vs, oe.data = .fields vs) (hd : XdAt d H) :
    ∃ od, PySem.W.KitX X.K (.ref a) (.ref D) (fun h => PySem.W.InstAt h a oe D od) ∧ PySem.W.InstAt s.heap a oe D od := by
  obtain ⟨hget, _⟩ := I.pin (a, oe) (List.mem_append_left _ hp)
  obtain ⟨vs, hv⟩ := hf
  have hcl : (PySem.W.clsIn X.K D).isSome = true := by
    obtain ⟨cd, hc, _⟩ := PySem.W.any_some C.hd
    rw [hc]; rfl
  have kx := fun od => PySem.W.kitx_exc (K := X.K) (x := a) (C := D) (ox := oe) (od := od) hcl C.hg C.hk C.hs C.ha C.hn C.ht C.hm
  have nc : PySem.W.notCls oe = true := by unfold PySem.W.notCls; rw [hv] <;> rfl
  rcases hd with rfl | ⟨dd, fs, rfl, ea⟩
  · exact ⟨none, kx none, ⟨hget, hz.1, nc, by rw [hz.2]; trivial⟩⟩
  · obtain ⟨mA, hns, _⟩ := (show ObjOk X.prog X.w H s.heap dd (.xd fs) from I.hok dd _ ea)
    obtain ⟨od, ho, _⟩ := lookIn_ns hns
    exact ⟨some od, kx (some od), ⟨hget, hz.1, nc, by rw [hz.2]; exact ho⟩⟩
theorem call_isG (hp : (a, oe) ∈ X.pn) (C : ExcC X.K D) (hz : Zc (.ref D) d oe) (hf : ∃ vs, oe.data = .fields vs) : CallR X (.builtin "isinstance") (rIsG X.K D a d) := by
  intro pins s σ H xs us Q I r ⟨c, cv, b, ex, hcv, e, hd, q⟩
  subst ex
  cases r with
  | cons rx rr => cases rr with
    | cons rt rr =>
      cases rr
      cases rx
      have ec := hcv _ rt
      subst ec
      obtain ⟨od, kx, J⟩ := kitx_pin I hp C hz hf hd
      exact PySem.W.kia_one kx I.kIn J e (fun z => nomatch z) fun tk => ⟨.bl b, H, I.kept (t' := tk) fun _ _ z => z, rfl, q⟩
theorem call_isT (hp : (a, oe) ∈ X.pn) (C : ExcC X.K D) (hz : Zc (.ref D) d oe) (hf : ∃ vs, oe.data = .fields vs) : CallR X (.builtin "isinstance") (rIsT X.K D a d) := by
  intro pins s σ H xs us Q I r ⟨tp, cs, b, ex, hs, e, hd, q⟩
  subst ex
  cases r with
  | cons rx rr => cases rr with
    | cons rt rr =>
      cases rr
      cases rx
      cases rt
      obtain ⟨its, rv, ⟨⟨oc, odd, oda, osl⟩, ho, hc, n, hdat⟩, _⟩ := I.tuple hs
      dsimp only at hc hdat
      subst hc hdat
      have ei := refs_at rv
      subst ei
      obtain ⟨od, kx, J⟩ := kitx_pin I hp C hz hf hd
      exact PySem.W.kia_tup kx I.kIn J ho e (fun z => nomatch z) fun tk => ⟨.bl b, H, I.kept (t' := tk) fun _ _ z => z, rfl, q⟩
end
end BB

namespace BB
open PySem PySem.Spec PyProof.Rows L2 SrtO
/-! sorting: the plain side -/
theorem swoI : Swo (fun a b : List KI => lexLt itemOrd a b) := by
  refine ⟨fun x y h => ?_, fun x y z h1 h2 => ?_⟩
  · rcases bcase (lexLt itemOrd y x) with q | q
    · have := lex_trans (O := itemOrd) x y x h q
      rw [lex_irrefl] at this
      cases this
    · exact q
  · rcases bcase (lexLt itemOrd z x) with q | q
    · rcases lex_negTrans (O := itemOrd) z y x q with q | q
      · rw [show lexLt itemOrd z y = false from h2] at q; cases q
      · rw [show lexLt itemOrd y x = false from h1] at q; cases q
    · exact q
theorem swo_by {α : Type} (f : α → List KI) : Swo (fun a b : α => lexLt itemOrd (f a) (f b)) := ⟨fun x y h => swoI.asym _ _ h, fun x y z h1 h2 => swoI.tr _ _ _ h1 h2⟩
section
variable {α β : Type} {lt lt' : α → α → Bool}
theorem insR_ok (O : Swo lt) (y : α) : ∀ l : List α, Srtd lt l → ∃ M N, l = M ++ N ∧ insR lt y l = M ++ y :: N ∧ (∀ x ∈ M, lt y x = false) ∧ ∀ x ∈ N, lt y x = true
  | [], _ => ⟨[], [], rfl, rfl, fun x h => (by cases h), fun x h => (by cases h)⟩
  | x :: r, h => by
    rcases bcase (lt y x) with q | q
    · exact ⟨[], x :: r, rfl, if_pos q, fun x h => (by cases h), O.lt_all h q⟩
    · obtain ⟨M, N, e1, e2, a, b⟩ := insR_ok O y r (List.pairwise_cons.mp h).2
      refine ⟨x :: M, N, by rw [e1]; rfl, ?_, fun z hz => ?_, b⟩
      · show (if lt y x = true then _ else x :: insR lt y r) = _
        rw [if_neg (by rw [q]; decide), e2]; rfl
      · rcases List.mem_cons.mp hz with rfl | hz
        · exact q
        · exact a z hz
theorem srt_go (O : Swo lt) : ∀ (l acc O1 : List α), Srtd lt acc → Stb lt acc O1 → Srtd lt (l.foldl (fun acc y => insR lt y acc) acc) ∧ Stb lt (l.foldl (fun acc y => insR lt y acc) acc) (O1 ++ l)
  | [], acc, O1, h1, h2 => ⟨h1, by rw [List.append_nil]; exact h2⟩
  | y :: l, acc, O1, h1, h2 => by
    obtain ⟨M, N, rfl, e2, a, b⟩ := insR_ok O y acc h1
    have h3 : Srtd lt (insR lt y (M ++ N)) := by rw [e2]; exact ins_srtd O h1 a b
    have h4 : Stb lt (insR lt y (M ++ N)) (O1 ++ [y]) := by rw [e2]; exact ins_stb O b h2
    have z := srt_go O l (insR lt y (M ++ N)) (O1 ++ [y]) h3 h4
    rw [List.append_assoc] at z
    exact z
theorem srtL_ok (O : Swo lt) (l : List α) : Srtd lt (srtL lt l) ∧ Stb lt (srtL lt l) l := srt_go O l [] [] List.Pairwise.nil (Stb.refl _)
theorem insR_map (f : α → β) (lt : β → β → Bool) (y : α) : ∀ l : List α, insR lt (f y) (l.map f) = (insR (fun a b => lt (f a) (f b)) y l).map f
  | [] => rfl
  | x :: r => by
    show (if lt (f y) (f x) = true then f y :: f x :: r.map f else f x :: insR lt (f y) (r.map f)) = (if lt (f y) (f x) = true then y :: x :: r else x :: insR _ y r).map f
    split
    · rfl
    · rw [insR_map f lt y r]; rfl
theorem srtL_mapG (f : α → β) (lt : β → β → Bool) : ∀ l acc : List α, (l.map f).foldl (fun acc y => insR lt y acc) (acc.map f) = (l.foldl (fun acc y => insR (fun a b => lt (f a) (f b)) y acc) acc).map f
  | [], acc => rfl
  | y :: l, acc => by
    show (l.map f).foldl _ (insR lt (f y) (acc.map f)) = _
    rw [insR_map]
    exact srtL_mapG f lt l _
theorem srtL_map (f : α → β) (lt : β → β → Bool) (l : List α) : srtL lt (l.map f) = (srtL (fun a b => lt (f a) (f b)) l).map f := srtL_mapG f lt l []
theorem insR_mem {y x : α} : ∀ {l : List α}, x ∈ insR lt y l → x = y ∨ x ∈ l
  | [], h => .inl (List.mem_singleton.mp h)
  | z :: r, h => by
    have h : x ∈ (if lt y z = true then y :: z :: r else z :: insR lt y r) := h
    split at h
    · exact List.mem_cons.mp h
    · rcases List.mem_cons.mp h with rfl | h
      · exact .inr (List.mem_cons_self ..)
      · exact (insR_mem h).imp id (List.mem_cons_of_mem _)
theorem insR_cg {y : α} : ∀ {l : List α}, (∀ x ∈ l, lt y x = lt' y x) → insR lt y l = insR lt' y l
  | [], _ => rfl
  | x :: r, h => by
    show (if lt y x = true then _ else _) = (if lt' y x = true then _ else _)
    rw [h x (List.mem_cons_self ..), insR_cg fun z hz => h z (List.mem_cons_of_mem _ hz)]
theorem srtL_cgG {m : List α} (h : ∀ a ∈ m, ∀ b ∈ m, lt a b = lt' a b) : ∀ (l acc : List α), (∀ a ∈ l, a ∈ m) → (∀ a ∈ acc, a ∈ m) → l.foldl (fun acc y => insR lt y acc) acc = l.foldl (fun acc y => insR lt' y acc) acc
  | [], _, _, _ => rfl
  | y :: l, acc, h1, h2 => by
    show l.foldl _ (insR lt y acc) = l.foldl _ (insR lt' y acc)
    rw [insR_cg fun x hx => h y (h1 y (List.mem_cons_self ..)) x (h2 x hx)]
    refine srtL_cgG h l _ (fun a ha => h1 a (List.mem_cons_of_mem _ ha)) fun a ha => ?_
    rcases insR_mem ha with rfl | ha
    · exact h1 _ (List.mem_cons_self ..)
    · exact h2 a ha
theorem srtL_cg {l : List α} (h : ∀ a ∈ l, ∀ b ∈ l, lt a b = lt' a b) : srtL lt l = srtL lt' l := srtL_cgG h l [] (fun _ h => h) fun _ h => by cases h
theorem srtL_perm (O : Swo lt) (l : List α) : (srtL lt l).Perm l := (srtL_ok O l).2.perm
end
/-! sorting: the values' side -/
def kv1 : Value → Option KI
  | .int i _ => some (.inl i)
  | .str x _ => some (.inr x.cps.toList)
  | _ => none
def kvN : Nat → List Value → List KI
  | 0, _ => []
  | _ + 1, [] => []
  | n + 1, d :: ds => match kv1 d with
    | some x => x :: kvN n ds
    | none => []
def itemsAt (h : Heap) (a : Addr) : List Value := match h.get? a with
  | some o => match o.data with
    | .seq its _ => its.toList
    | _ => []
  | none => []
def kval (h : Heap) : Nat → Value → List KI
  | 0, v => (kv1 v).toList
  | n + 1, .ref a => kvN (n + 1) (itemsAt h a)
  | _ + 1, _ => []
theorem itemsAt_of {h : Heap} {a : Addr} {o : Obj} {its : Array Value} {m : Nat} (e : h.get? a = some o) (d : o.data = .seq its m) : itemsAt h a = its.toList := by
  unfold itemsAt
  rw [e]
  dsimp only
  rw [d]
section
variable {prog : Program} {w : World} {A : Around} {E : Value → Shared → Prop} {s : Shared}
theorem same_lex {b fin : Bool} {Q : Bool → Shared → Prop} (h : Q fin s) : ∀ (xs : List Value) (i : Nat), PySem.W.KatLex prog w A b fin Q (xs.zip xs) i s
  | [], i => PySem.W.kat_nil h
  | x :: xs, i => by
    refine PySem.W.kat_cons (SeqAt.EqAt.same x prog w _ _ ?_)
    exact PySem.W.kat_yes (same_lex h xs (i + 1))
theorem kv1_cases {x : Value} {k : KI} (h : kv1 x = some k) : (∃ i t, x = .int i t ∧ k = .inl i) ∨ ∃ z t, x = .str z t ∧ k = .inr z.cps.toList := by
  unfold kv1 at h
  split at h
  · cases h; exact .inl ⟨_, _, rfl, rfl⟩
  · cases h; exact .inr ⟨_, _, rfl, rfl⟩
  · cases h
theorem kvN_cons {n : Nat} {x : Value} {xs : List Value} (h : (kvN (n + 1) (x :: xs)).length = n + 1) : ∃ k, kv1 x = some k ∧ kvN (n + 1) (x :: xs) = k :: kvN n xs ∧ (kvN n xs).length = n := by
  have e : kvN (n + 1) (x :: xs) = match kv1 x with | some k => k :: kvN n xs | none => [] := rfl
  rw [e] at h ⊢
  cases hk : kv1 x with
  | none => rw [hk] at h; cases h
  | some k =>
    rw [hk] at h
    exact ⟨k, rfl, rfl, by simpa using h⟩
theorem lex_pre {b fin : Bool} {Q : Bool → Shared → Prop} : ∀ (n : Nat) (xs ys : List Value) (i : Nat), (kvN n xs).length = n → (kvN n ys).length = n → (kvN n xs).map isI = (kvN n ys).map isI →
    (kvN n xs = kvN n ys → xs = ys ∨ (xs.length = n ∧ ys.length = n)) → fin = decide (xs.length < ys.length) → Q (lexLt itemOrd (kvN n xs) (kvN n ys)) s → PySem.W.KatLex prog w A b fin Q (xs.zip ys) i s
  | 0, xs, ys, i, _, _, _, he, hf, h => by
    have h : Q false s := h
    rcases he rfl with rfl | ⟨e1, e2⟩
    · refine same_lex ?_ xs i
      rw [hf, decide_eq_false (Nat.lt_irrefl _)]
      exact h
    · have e1 := List.length_eq_zero_iff.mp e1
      have e2 := List.length_eq_zero_iff.mp e2
      subst e1; subst e2
      refine PySem.W.kat_nil ?_
      rw [hf]; exact h
  | n + 1, [], _, _, h, _, _, _, _, _ => by cases h
  | n + 1, _ :: _, [], _, _, h, _, _, _, _ => by cases h
  | n + 1, x :: xs, y :: ys, i, h1, h2, hs, he, hf, h => by
    obtain ⟨k, k1, k2, k3⟩ := kvN_cons h1
    obtain ⟨l, l1, l2, l3⟩ := kvN_cons h2
    rw [k2, l2] at hs he h
    obtain ⟨hs1, hs2⟩ := List.cons.inj (show isI k :: (kvN n xs).map isI = isI l :: (kvN n ys).map isI from hs)
    have hf' : fin = decide (xs.length < ys.length) := by rw [hf]; simp only [List.length_cons, Nat.add_lt_add_iff_right]
    have go : k = l → PySem.W.KatLex prog w A b fin Q (xs.zip ys) (i + 1) s := fun e => by
      subst e
      refine lex_pre n xs ys (i + 1) k3 l3 hs2 (fun e2 => ?_) hf' ?_
      · rcases he (by rw [e2]) with e | ⟨a, b⟩
        · exact .inl (List.cons.inj e).2
        · exact .inr ⟨by simpa using a, by simpa using b⟩
      · have z := lex_self (O := itemOrd) k (kvN n xs) (kvN n ys)
        rw [z] at h
        exact h
    rcases kv1_cases k1 with ⟨a, t, rfl, rfl⟩ | ⟨a, t, rfl, rfl⟩
    · rcases kv1_cases l1 with ⟨c, u, rfl, rfl⟩ | ⟨c, u, rfl, rfl⟩
      · refine PySem.W.kat_cons (wpAny_eqBool_int ?_)
        refine PySem.W.kat_go (fun e => PySem.W.kat_yes (go ?_)) (fun e => PySem.W.kat_no ?_)
        · rw [show a = c by simpa using e]
        · have hnm : ¬ a = c := by simpa using e
          have z := lex_diff (O := itemOrd) (r := kvN n xs) (t := kvN n ys) (x := .inl a) (y := .inl c) fun x => hnm (Sum.inl.inj x)
          rw [z] at h
          exact oneLt_any_int h
      · cases hs1
    · rcases kv1_cases l1 with ⟨c, u, rfl, rfl⟩ | ⟨c, u, rfl, rfl⟩
      · cases hs1
      · refine PySem.W.kat_cons (wpAny_eqBool_str ?_)
        refine PySem.W.kat_go (fun e => PySem.W.kat_yes (go ?_)) (fun e => PySem.W.kat_no ?_)
        · rw [show a = c from of_decide_eq_true e]
        · have hxy : ¬ a = c := of_decide_eq_false e
          have hne : a.cps.toList ≠ c.cps.toList := by
            intro hl
            apply hxy
            have hc : a.cps = c.cps := Array.toList_inj.mp hl
            cases a; cases c
            simp only [Str.mk.injEq]
            exact hc
          have z := lex_diff (O := itemOrd) (r := kvN n xs) (t := kvN n ys) (x := .inr a.cps.toList) (y := .inr c.cps.toList) fun x => hne (Sum.inr.inj x)
          rw [z] at h
          exact oneLt_any_str h
/-- what is asked of the values -/
structure SrtV (h : Heap) (n : Nat) (vs : List Value) : Prop where
  z : n = 0 → (∀ v ∈ vs, ∃ i t, v = .int i t) ∨ ∀ v ∈ vs, ∃ x t, v = .str x t
  t : n ≠ 0 → ∀ v ∈ vs, ∃ a o its m, v = .ref a ∧ h.get? a = some o ∧ o.cls = .type "tuple" ∧ o.data = .seq its m ∧ (kvN n its.toList).length = n
  sh : ∀ v ∈ vs, ∀ u ∈ vs, (kval h n v).map isI = (kval h n u).map isI
  sep : n ≠ 0 → (∀ v ∈ vs, ∀ u ∈ vs, kval h n v = kval h n u → v = u) ∨ ∀ v ∈ vs, ∃ a, v = .ref a ∧ (itemsAt h a).length = n
def ltv (h : Heap) (n : Nat) (v u : Value) : Bool := lexLt itemOrd (kval h n v) (kval h n u)
theorem ltv_swo (h : Heap) (n : Nat) : Swo (ltv h n) := swo_by _
theorem katT {h : Heap} {n : Nat} (hn : n ≠ 0) : ∀ {vs : List Value}, (∀ v ∈ vs, ∃ a o its m, v = .ref a ∧ h.get? a = some o ∧ o.cls = .type "tuple" ∧ o.data = .seq its m ∧ (kvN n its.toList).length = n) →
    ∃ fs : List Value, PySem.W.KatTups h vs fs ∧ fs.length = vs.length ∧ ∀ (i : Nat) (f : Value), fs[i]? = some f → ∃ v, vs[i]? = some v ∧ ∃ k r, kval h n v = k :: r ∧ kv1 f = some k
  | [], _ => ⟨[], trivial, rfl, fun i f h => by cases h⟩
  | v :: vs, x => by
    obtain ⟨fs, t1, t2, t3⟩ := katT hn (vs := vs) fun u hu => x u (List.mem_cons_of_mem _ hu)
    obtain ⟨a, o, its, m, rfl, ho, hc, hd, hl⟩ := x v (List.mem_cons_self ..)
    obtain ⟨n, rfl⟩ : ∃ k, n = k + 1 := ⟨n - 1, by omega⟩
    cases hi : its.toList with
    | nil => rw [hi] at hl; cases hl
    | cons f r =>
      rw [hi] at hl
      obtain ⟨k, k1, k2, k3⟩ := kvN_cons hl
      refine ⟨f :: fs, ⟨⟨a, o, its, m, rfl, ho, hc, hd, ?_⟩, t1⟩, by rw [List.length_cons, List.length_cons, t2], fun i g hg => ?_⟩
      · rw [← Array.getElem?_toList, hi]; rfl
      · cases i with
        | zero =>
          cases hg
          refine ⟨_, rfl, k, kvN n r, ?_, k1⟩
          show kvN (n + 1) (itemsAt h a) = _
          rw [itemsAt_of ho hd, hi, k2]
        | succ i => exact t3 i g hg
theorem sortable_v {n : Nat} {a : Addr} {vs : List Value} (hv : SrtV s.heap n vs) (h2 : 2 ≤ vs.length) (ha : ∀ o, s.heap.get? a = some o → o.cls ≠ .type "tuple") : SortableO prog w A s a vs (ltv s.heap n) := by
  intro h' keep
  by_cases hn : n = 0
  · subst hn
    rcases hv.z rfl with hi | hi
    · refine ⟨oneType', fun Q E hq => ?_, fun p q hp hq => ?_⟩
      · exact PySem.W.kas_kind (s := { s with heap := h' }) (T := .type "int") h2 (fun v hm => by obtain ⟨i, t, rfl⟩ := hi v hm; exact PySem.W.Looks.now) (by decide +kernel) (by rfl) hq
      · obtain ⟨i, t, e⟩ := hi _ hp
        obtain ⟨j, u, e'⟩ := hi _ hq
        show wpAny (model prog w) A (keyLt' oneType' p.1 q.1) (fun r s' => s' = _ ∧ r = ltv s.heap 0 p.1 q.1) (fun _ _ => False) _
        rw [e, e', keyLt'_oneType]
        refine oneLt_int ⟨rfl, ?_⟩
        show _ = lexLt itemOrd [.inl i] [.inl j]
        rw [lex_cons]
        show _ = (decide (i < j) || (!decide (j < i) && false))
        simp
    · refine ⟨oneType', fun Q E hq => ?_, fun p q hp hq => ?_⟩
      · exact PySem.W.kas_kind (s := { s with heap := h' }) (T := .type "str") h2 (fun v hm => by obtain ⟨i, t, rfl⟩ := hi v hm; exact PySem.W.Looks.now) (by decide +kernel) (by rfl) hq
      · obtain ⟨i, t, e⟩ := hi _ hp
        obtain ⟨j, u, e'⟩ := hi _ hq
        show wpAny (model prog w) A (keyLt' oneType' p.1 q.1) (fun r s' => s' = _ ∧ r = ltv s.heap 0 p.1 q.1) (fun _ _ => False) _
        rw [e, e', keyLt'_oneType]
        refine oneLt_str ⟨rfl, ?_⟩
        show _ = lexLt itemOrd [.inr i.cps.toList] [.inr j.cps.toList]
        rw [lex_cons]
        show _ = (itemOrd.blt (.inr i.cps.toList) (.inr j.cps.toList) || (!itemOrd.blt (.inr j.cps.toList) (.inr i.cps.toList) && false))
        rw [Bool.and_false, Bool.or_false]
        rfl
  · have ht := hv.t hn
    have ht' : ∀ v ∈ vs, ∃ a o its m, v = .ref a ∧ h'.get? a = some o ∧ o.cls = .type "tuple" ∧ o.data = .seq its m ∧ (kvN n its.toList).length = n := fun v hm => by
      obtain ⟨b, o, its, m, e, ho, hc, r⟩ := ht v hm
      exact ⟨b, o, its, m, e, keep b o (fun z => by subst z; exact ha o ho hc) ho, hc, r⟩
    have hk : ∀ v ∈ vs, kval h' n v = kval s.heap n v := fun v hm => by
      obtain ⟨b, o, its, m, rfl, ho, hc, hd, _⟩ := ht v hm
      obtain ⟨n, rfl⟩ : ∃ k, n = k + 1 := ⟨n - 1, by omega⟩
      show kvN (n + 1) (itemsAt h' b) = kvN (n + 1) (itemsAt s.heap b)
      rw [itemsAt_of ho hd, itemsAt_of (keep b o (fun z => by subst z; exact ha o ho hc) ho) hd]
    obtain ⟨fs, t1, t2, t3⟩ := katT hn ht'
    have hT : ∃ T : Value, (∀ f ∈ fs, PySem.W.Looks (model prog w) h' (typeOf f) T) ∧ (T == T) = true ∧ (T != Value.type "tuple") = true := by
      obtain ⟨f0, hf0⟩ : ∃ f0, fs[0]? = some f0 := ⟨_, List.getElem?_eq_getElem (by omega)⟩
      obtain ⟨v0, hv0, k0, r0, e0, f0k⟩ := t3 0 f0 hf0
      have sh : ∀ f ∈ fs, ∃ k, kv1 f = some k ∧ isI k = isI k0 := fun f hf => by
        obtain ⟨i, hi⟩ := List.getElem?_of_mem hf
        obtain ⟨v, hv1, k, r, e, fk⟩ := t3 i f hi
        have m1 := List.mem_of_getElem? hv1
        have m0 := List.mem_of_getElem? hv0
        have z := hv.sh v m1 v0 m0
        rw [← hk v m1, ← hk v0 m0, e, e0] at z
        exact ⟨k, fk, (List.cons.inj (show isI k :: r.map isI = isI k0 :: r0.map isI from z)).1⟩
      cases k0 with
      | inl i =>
        refine ⟨.type "int", fun f hf => ?_, by rfl, by decide +kernel⟩
        obtain ⟨k, fk, ik⟩ := sh f hf
        rcases kv1_cases fk with ⟨a, t, rfl, rfl⟩ | ⟨a, t, rfl, rfl⟩
        · exact PySem.W.Looks.now
        · cases ik
      | inr i =>
        refine ⟨.type "str", fun f hf => ?_, by rfl, by decide +kernel⟩
        obtain ⟨k, fk, ik⟩ := sh f hf
        rcases kv1_cases fk with ⟨a, t, rfl, rfl⟩ | ⟨a, t, rfl, rfl⟩
        · cases ik
        · exact PySem.W.Looks.now
    obtain ⟨T, hT1, hT2, hT3⟩ := hT
    refine ⟨tuples' true, fun Q E hq => ?_, fun p q hp hq => ?_⟩
    · refine PySem.W.kat_kind (s := { s with heap := h' }) t1 (by omega) hT1 hT2 ?_
      rw [hT3]
      exact hq
    · show wpAny (model prog w) A (keyLt' (tuples' true) p.1 q.1) (fun r s' => s' = _ ∧ r = ltv s.heap n p.1 q.1) (fun _ _ => False) _
      obtain ⟨b, o, its, m, e, ho, hc, hd, hl⟩ := ht' _ hp
      obtain ⟨b', o', its', m', e', ho', hc', hd', hl'⟩ := ht' _ hq
      have k1 : kval s.heap n p.1 = kvN n its.toList := by
        rw [← hk _ hp, e]
        obtain ⟨n, rfl⟩ : ∃ k, n = k + 1 := ⟨n - 1, by omega⟩
        show kvN (n + 1) (itemsAt h' b) = _
        rw [itemsAt_of ho hd]
      have k2 : kval s.heap n q.1 = kvN n its'.toList := by
        rw [← hk _ hq, e']
        obtain ⟨n, rfl⟩ : ∃ k, n = k + 1 := ⟨n - 1, by omega⟩
        show kvN (n + 1) (itemsAt h' b') = _
        rw [itemsAt_of ho' hd']
      have sh := hv.sh _ hp _ hq
      have sep := hv.sep hn
      rw [k1, k2] at sh
      have same : kvN n its.toList = kvN n its'.toList → its.toList = its'.toList ∨ (its.toList.length = n ∧ its'.toList.length = n) := fun ek => by
        rcases sep with sep | sep
        · have z := sep _ hp _ hq (by rw [k1, k2, ek])
          rw [e, e'] at z
          cases z
          rw [ho] at ho'
          cases ho'
          rw [hd] at hd'
          cases hd'
          exact .inl rfl
        · obtain ⟨c, ec, lc⟩ := sep _ hp
          obtain ⟨c', ec', lc'⟩ := sep _ hq
          rw [e] at ec; cases ec
          rw [e'] at ec'; cases ec'
          obtain ⟨d, od, id, md, ed, hod, hcd, hdd, _⟩ := ht _ hp
          obtain ⟨d', od', id', md', ed', hod', hcd', hdd', _⟩ := ht _ hq
          rw [e] at ed; cases ed
          rw [e'] at ed'; cases ed'
          have q1 := keep b od (fun z => by subst z; exact ha od hod hcd) hod
          have q2 := keep b' od' (fun z => by subst z; exact ha od' hod' hcd') hod'
          rw [ho] at q1; cases q1
          rw [ho'] at q2; cases q2
          rw [itemsAt_of hod hd] at lc
          rw [itemsAt_of hod' hd'] at lc'
          exact .inr ⟨lc, lc'⟩
      have res : ltv s.heap n p.1 q.1 = lexLt itemOrd (kvN n its.toList) (kvN n its'.toList) := by unfold ltv; rw [k1, k2]
      rw [e, e'] at res
      rw [e, e']
      refine PySem.W.kat_lt (s := { s with heap := h' }) ho hd ho' hd' ?_
      exact lex_pre n its.toList its'.toList 0 hl hl' sh same (by rw [Array.length_toList, Array.length_toList]) ⟨rfl, res.symm⟩
end
end BB

namespace BB
open PySem PySem.Spec PyProof.Rows L2 SrtO
/-! sorting: the rules -/
abbrev Trip := Value × V × D
section
variable {T : Tab} {K : PySem.W.Frag} {G : Gh} {H : Hp} {h : Heap} {P : Program} {w : World}
theorem trips : ∀ {xs : List V} {ds : List D} {us : List Value}, RVs T K G H xs ds → Vals xs us → ∃ L : List Trip, L.map (·.1) = us ∧ L.map (·.2.1) = xs ∧ L.map (·.2.2) = ds ∧ ∀ t ∈ L, RelV t.2.1 t.1 ∧ RV T K G H t.2.1 t.2.2
  | [], [], [], _, _ => ⟨[], rfl, rfl, rfl, fun t h => by cases h⟩
  | v :: xs, d :: ds, u :: us, .cons r t, .cons q p => by
    obtain ⟨L, e1, e2, e3, a⟩ := trips t p
    refine ⟨(u, v, d) :: L, ?_, ?_, ?_, fun z hz => ?_⟩
    · rw [List.map_cons, e1]
    · rw [List.map_cons, e2]
    · rw [List.map_cons, e3]
    · rcases List.mem_cons.mp hz with rfl | hz
      · exact ⟨q, r⟩
      · exact a z hz
theorem trip_vals : ∀ {L : List Trip}, (∀ t ∈ L, RelV t.2.1 t.1) → Vals (L.map (·.2.1)) (L.map (·.1))
  | [], _ => .nil
  | t :: L, h => .cons (h t (List.mem_cons_self ..)) (trip_vals fun z hz => h z (List.mem_cons_of_mem _ hz))
theorem trip_rvs : ∀ {L : List Trip}, (∀ t ∈ L, RV T K G H t.2.1 t.2.2) → RVs T K G H (L.map (·.2.1)) (L.map (·.2.2))
  | [], _ => .nil
  | t :: L, h => .cons (h t (List.mem_cons_self ..)) (trip_rvs fun z hz => h z (List.mem_cons_of_mem _ hz))
theorem kv1_rv {v : V} {u : Value} {d : D} (r : RelV v u) (q : RV T K G H v d) : kv1 u = kit1 d := by
  cases q with
  | int i => obtain ⟨t, rfl⟩ := r; rfl
  | str x => obtain ⟨t, rfl⟩ := r; rfl
  | _ => cases r; rfl
theorem kvN_rv : ∀ (n : Nat) {vs : List V} {us : List Value} {ds : List D}, Vals vs us → RVs T K G H vs ds → kvN n us = kitN n ds
  | 0, _, _, _, _, _ => rfl
  | n + 1, _, _, _, .nil, .nil => rfl
  | n + 1, _, _, _, .cons r t, .cons q p => by
    show (match kv1 _ with | some x => x :: kvN n _ | none => []) = (match kit1 _ with | some x => x :: kitN n _ | none => [])
    rw [kv1_rv r q, kvN_rv n t p]
theorem tup_at {a : Addr} {vs : List V} (hok : HOk P w H h) (e : H a = some (.tup vs)) : ∃ its : List Value, ∃ o m, Vals vs its ∧ h.get? a = some o ∧ o.cls = .type "tuple" ∧ o.data = .seq its.toArray m := by
  obtain ⟨_, its, r, o, h1, h2, n, h3⟩ := (show ObjOk P w H h a (.tup vs) from hok a _ e)
  exact ⟨its, o, n, r, h1, h2, h3⟩
theorem kval_rv (hok : HOk P w H h) {n : Nat} {v : V} {u : Value} {d : D} (r : RelV v u) (q : RV T K G H v d) (ne : n = 0 ∨ skey n d ≠ []) : kval h n u = skey n d := by
  cases n with
  | zero => show (kv1 u).toList = (kit1 d).toList; rw [kv1_rv r q]
  | succ n =>
    rcases ne with ne | ne
    · cases ne
    · cases q with
      | @tup a vs ds e p =>
        cases r
        obtain ⟨its, o, m, rv, h1, h2, h3⟩ := tup_at hok e
        show kvN (n + 1) (itemsAt h a) = kitN (n + 1) ds
        rw [itemsAt_of h1 h3]
        exact kvN_rv (n + 1) rv p
      | _ => exact absurd rfl ne
theorem okSrt_of {n : Nat} {l : List D} (o : okSrt n l = true) : (∀ d ∈ l, (skey n d).length = max n 1) ∧ (∀ a ∈ l, ∀ b ∈ l, (skey n a).map isI = (skey n b).map isI) ∧ (n = 0 ∨ (l.map (skey n)).Nodup ∨ ∀ d ∈ l, tlen d = n) := by
  unfold okSrt at o
  simp only [Bool.and_eq_true, Bool.or_eq_true, List.all_eq_true, decide_eq_true_eq] at o
  obtain ⟨⟨o1, o2⟩, o3⟩ := o
  exact ⟨o1, o2, o3.elim (fun z => z.imp id .inl) fun z => .inr (.inr z)⟩
theorem nodup_at {α β : Type} {f : α → β} : ∀ {l : List α}, (l.map f).Nodup → ∀ a ∈ l, ∀ b ∈ l, f a = f b → a = b
  | [], _, a, ha, _, _, _ => by cases ha
  | x :: l, h, a, ha, b, hb, e => by
    rw [List.map_cons, List.nodup_cons] at h
    rcases List.mem_cons.mp ha with rfl | ha
    · rcases List.mem_cons.mp hb with hb | hb
      · exact hb.symm
      · exact absurd (List.mem_map.mpr ⟨b, hb, e.symm⟩) h.1
    · rcases List.mem_cons.mp hb with hb | hb
      · exact absurd (List.mem_map.mpr ⟨a, ha, e.trans (congrArg f hb)⟩) h.1
      · exact nodup_at h.2 a ha b hb e
variable {n : Nat} {L : List Trip}
theorem trip_key (hok : HOk P w H h) (hL : ∀ t ∈ L, RelV t.2.1 t.1 ∧ RV T K G H t.2.1 t.2.2) (o : okSrt n (L.map (·.2.2)) = true) : ∀ t ∈ L, kval h n t.1 = skey n t.2.2 := fun t ht => by
  obtain ⟨o1, _, _⟩ := okSrt_of o
  refine kval_rv hok (hL t ht).1 (hL t ht).2 ?_
  by_cases hn : n = 0
  · exact .inl hn
  · refine .inr fun z => ?_
    have := o1 _ (List.mem_map.mpr ⟨t, ht, rfl⟩)
    rw [z] at this
    simp at this
    omega
theorem srtV_trip (hok : HOk P w H h) (hL : ∀ t ∈ L, RelV t.2.1 t.1 ∧ RV T K G H t.2.1 t.2.2) (o : okSrt n (L.map (·.2.2)) = true) : SrtV h n (L.map (·.1)) := by
  have hk := trip_key hok hL o
  obtain ⟨o1, o2, o3⟩ := okSrt_of o
  have mem : ∀ {u : Value}, u ∈ L.map (·.1) → ∃ t ∈ L, t.1 = u := fun hu => by
    obtain ⟨t, ht, e⟩ := List.mem_map.mp hu
    exact ⟨t, ht, e⟩
  have md : ∀ {t : Trip}, t ∈ L → t.2.2 ∈ L.map (·.2.2) := fun ht => List.mem_map.mpr ⟨_, ht, rfl⟩
  have asT : n ≠ 0 → ∀ t ∈ L, ∃ a vs ds its o m, t.1 = .ref a ∧ t.2.2 = .tup ds ∧ RVs T K G H vs ds ∧ Vals vs its ∧ h.get? a = some o ∧ o.cls = .type "tuple" ∧ o.data = .seq (List.toArray its) m := fun hn t ht => by
    obtain ⟨n, rfl⟩ : ∃ k, n = k + 1 := ⟨n - 1, by omega⟩
    obtain ⟨u, v, d⟩ := t
    obtain ⟨r, q⟩ := hL _ ht
    have l1 := o1 _ (md ht)
    dsimp only at r q l1
    cases q with
    | @tup a vs ds e p =>
      cases r
      obtain ⟨its, o, m, rv, h1, h2, h3⟩ := tup_at hok e
      exact ⟨a, vs, ds, its, o, m, rfl, rfl, p, rv, h1, h2, h3⟩
    | _ => simp [skey] at l1
  refine ⟨fun hn => ?_, fun hn v hv => ?_, fun v hv u hu => ?_, fun hn => ?_⟩
  · subst hn
    cases L with
    | nil => exact .inl fun v hv => by cases hv
    | cons t0 L =>
      have l0 := o1 _ (md (List.mem_cons_self ..))
      have key : ∀ t ∈ t0 :: L, ∃ k, kv1 t.1 = some k ∧ (skey 0 t.2.2).map isI = [isI k] := fun t ht => by
        have := o1 _ (md ht)
        have e := hk t ht
        have e : (kv1 t.1).toList = skey 0 t.2.2 := e
        cases hq : kv1 t.1 with
        | none => rw [← e, hq] at this; cases this
        | some k => exact ⟨k, rfl, by rw [← e, hq]; rfl⟩
      obtain ⟨k0, e0, s0⟩ := key t0 (List.mem_cons_self ..)
      have all : ∀ t ∈ t0 :: L, ∃ k, kv1 t.1 = some k ∧ isI k = isI k0 := fun t ht => by
        obtain ⟨k, e, s⟩ := key t ht
        have := o2 _ (md ht) _ (md (List.mem_cons_self ..))
        rw [s, s0] at this
        exact ⟨k, e, (List.cons.inj this).1⟩
      cases k0 with
      | inl i =>
        refine .inl fun v hv => ?_
        obtain ⟨t, ht, rfl⟩ := mem hv
        obtain ⟨k, e, ik⟩ := all t ht
        rcases kv1_cases e with ⟨a, t, e', rfl⟩ | ⟨a, t, e', rfl⟩
        · exact ⟨_, _, e'⟩
        · cases ik
      | inr i =>
        refine .inr fun v hv => ?_
        obtain ⟨t, ht, rfl⟩ := mem hv
        obtain ⟨k, e, ik⟩ := all t ht
        rcases kv1_cases e with ⟨a, t, e', rfl⟩ | ⟨a, t, e', rfl⟩
        · cases ik
        · exact ⟨_, _, e'⟩
  · obtain ⟨t, ht, rfl⟩ := mem hv
    obtain ⟨a, vs, ds, its, o, m, e1, e2, p, rv, h1, h2, h3⟩ := asT hn t ht
    refine ⟨a, o, its.toArray, m, e1, h1, h2, h3, ?_⟩
    have l1 := o1 _ (md ht)
    rw [e2] at l1
    obtain ⟨n, rfl⟩ : ∃ k, n = k + 1 := ⟨n - 1, by omega⟩
    show (kvN (n + 1) its).length = n + 1
    rw [kvN_rv (n + 1) rv p]
    have l1 : (kitN (n + 1) ds).length = max (n + 1) 1 := l1
    rw [l1]
    omega
  · obtain ⟨t, ht, rfl⟩ := mem hv
    obtain ⟨t', ht', rfl⟩ := mem hu
    rw [hk t ht, hk t' ht']
    exact o2 _ (md ht) _ (md ht')
  · rcases o3 with o3 | o3 | o3
    · exact absurd o3 hn
    · refine .inl fun v hv u hu e => ?_
      obtain ⟨t, ht, rfl⟩ := mem hv
      obtain ⟨t', ht', rfl⟩ := mem hu
      rw [hk t ht, hk t' ht'] at e
      rw [List.map_map] at o3
      rw [nodup_at o3 t ht t' ht' e]
    · refine .inr fun v hv => ?_
      obtain ⟨t, ht, rfl⟩ := mem hv
      obtain ⟨a, vs, ds, its, o, m, e1, e2, p, rv, h1, h2, h3⟩ := asT hn t ht
      refine ⟨a, e1, ?_⟩
      have := o3 _ (md ht)
      rw [e2] at this
      rw [itemsAt_of h1 h3]
      show its.length = n
      have l1 := rv.length
      have l2 := p.length
      have : ds.length = n := this
      omega
/-- what comes out -/
theorem srt_res (hok : HOk P w H h) (hL : ∀ t ∈ L, RelV t.2.1 t.1 ∧ RV T K G H t.2.1 t.2.2) (o : okSrt n (L.map (·.2.2)) = true) {out : List Value} (h1 : Srtd (ltv h n) out) (h2 : Stb (ltv h n) out (L.map (·.1))) :
    ∃ L' : List Trip, L'.Perm L ∧ out = L'.map (·.1) ∧ L'.map (·.2.2) = srtL (ltS n) (L.map (·.2.2)) := by
  have hk := trip_key hok hL o
  have O3 : Swo (fun a b : Trip => ltv h n a.1 b.1) := swo_by _
  obtain ⟨a, b⟩ := srtL_ok O3 L
  refine ⟨srtL (fun a b : Trip => ltv h n a.1 b.1) L, b.perm, ?_, ?_⟩
  · have m1 : Srtd (ltv h n) ((srtL (fun a b : Trip => ltv h n a.1 b.1) L).map (·.1)) := srtd_map a
    have m2 : Stb (ltv h n) ((srtL (fun a b : Trip => ltv h n a.1 b.1) L).map (·.1)) (L.map (·.1)) := Stb.map (ltv_swo h n) (fun t : Trip => t.1) b
    refine stb_uniq (ltv_swo h n) h1 m1 (h2.trans ⟨m2.perm.symm, fun x => (m2.cls x).symm⟩)
  · rw [srtL_map (fun t : Trip => t.2.2) (ltS n) L]
    congr 1
    refine srtL_cg fun t ht t' ht' => ?_
    unfold ltv ltS
    rw [hk t ht, hk t' ht']
end
section
variable {X : Cx} {T : Tab}
/-- sorted(xs), a list; sorted(d), a dict -/
def rSrt (T : Tab) (K : PySem.W.Frag) (n : Nat) : List V → Hp → VK → Prop := fun vs H Q => ∃ (a : Addr) (G : Gh) (ds : List D), vs = [.ref a] ∧
  ((∃ xs, SqL K H a xs ∧ RVs T K G H xs ds) ∨ (∃ kvs l, H a = some (.dK kvs) ∧ RKs T K G H kvs l ∧ ds = l.map (·.1)) ∨ ∃ kvs l, H a = some (.dT kvs) ∧ RTs T K G H kvs l ∧ ds = l.map (·.1)) ∧
  okSrt n ds = true ∧ ∀ ys p, RVs T K G H ys (srtL (ltS n) ds) → H p = none → Q (.ref p) (upd H p (.lst ys))
theorem dict_keys {P : Program} {w : World} {K : PySem.W.Frag} {G : Gh} {H : Hp} {h : Heap} {a : Addr} {ds : List D} (hok : HOk P w H h)
    (e : (∃ kvs l, H a = some (.dK kvs) ∧ RKs T K G H kvs l ∧ ds = l.map (·.1)) ∨ ∃ kvs l, H a = some (.dT kvs) ∧ RTs T K G H kvs l ∧ ds = l.map (·.1)) :
    (a == sysModules) = false ∧ ∃ (o : Obj) (es : Array DictEntry) (ep : Nat), h.get? a = some o ∧ o.ExactDict ∧ o.data = .dict es ep ∧ es.size = ds.length ∧ es.size ≤ sizeLine ∧
      ∀ (i : Nat) (en : DictEntry) (d : D), es[i]? = some en → ds[i]? = some d → ∃ v, RelV v en.key ∧ RV T K G H v d := by
  rcases e with ⟨kvs, l, e, rk, rfl⟩ | ⟨kvs, l, e, rk, rfl⟩
  · obtain ⟨z, hs, vs, kv, o, es, ep, ho, hx, hdt, _, pr, _⟩ := dk_of hok e
    have l1 := pr.length
    have l2 : kvs.length = vs.length := Paired.length kv
    have l3 := rk.length
    rw [Array.length_toList] at l1
    refine ⟨hs, o, es, ep, ho, hx, hdt, by rw [List.length_map]; omega, by omega, fun i en d he hd => ?_⟩
    rw [List.getElem?_map] at hd
    cases hl : l[i]? with
    | none => rw [hl] at hd; cases hd
    | some q =>
      obtain ⟨kd, y⟩ := q
      rw [hl] at hd
      cases hd
      have hi : i < kvs.length := by have := (List.getElem?_eq_some_iff.mp hl).1; omega
      obtain ⟨⟨k, v⟩, hkv⟩ : ∃ p, kvs[i]? = some p := ⟨_, List.getElem?_eq_getElem hi⟩
      obtain ⟨kd', d', h1, h2, h3⟩ := rk.at hkv
      rw [hl] at h1
      cases h1
      obtain ⟨⟨k', u⟩, hu, e1, e2⟩ := L2.paired_get kv hkv
      dsimp only at e1 e2
      subst e1
      obtain ⟨kk, _⟩ := pr.get? (by rw [Array.getElem?_toList]; exact he) hu
      exact ⟨kV k, relV_key kk, key_rv h2⟩
  · obtain ⟨z, hs, xs, pr, o, es, ep, ho, hx, hdt, he, _⟩ := dt_of hok e
    have l1 : es.size = xs.length := size_of_entries he
    have l2 : kvs.length = xs.length := Paired.length pr
    have l3 := rk.length
    refine ⟨hs, o, es, ep, ho, hx, hdt, by rw [List.length_map]; omega, by omega, fun i en d hen hd => ?_⟩
    rw [List.getElem?_map] at hd
    cases hl : l[i]? with
    | none => rw [hl] at hd; cases hd
    | some q =>
      obtain ⟨kd, y⟩ := q
      rw [hl] at hd
      cases hd
      have hi : i < kvs.length := by have := (List.getElem?_eq_some_iff.mp hl).1; omega
      obtain ⟨⟨k, v⟩, hkv⟩ : ∃ p, kvs[i]? = some p := ⟨_, List.getElem?_eq_getElem hi⟩
      obtain ⟨kd', d', h1, h2, h3⟩ := rk.at hkv
      rw [hl] at h1
      cases h1
      obtain ⟨b, hb, e1, e2, _⟩ := L2.paired_get pr hkv
      have q := entry_at he i
      rw [hb, hen] at q
      cases q
      exact ⟨.ref b.2.1, rfl, tkey_rv h2 e2⟩
theorem vals_of_at {α : Type} : ∀ {us : List Value} {ds : List D} {R : Value → V → D → Prop}, us.length = ds.length → (∀ (i : Nat) (u : Value) (d : D), us[i]? = some u → ds[i]? = some d → ∃ v, R u v d) → ∃ L : List Trip, L.map (·.1) = us ∧ L.map (·.2.2) = ds ∧ ∀ t ∈ L, R t.1 t.2.1 t.2.2
  | [], [], R, _, _ => ⟨[], rfl, rfl, fun t h => by cases h⟩
  | [], _ :: _, R, e, _ => by cases e
  | _ :: _, [], R, e, _ => by cases e
  | u :: us, d :: ds, R, e, h => by
    obtain ⟨v, r⟩ := h 0 u d rfl rfl
    obtain ⟨L, e1, e2, a⟩ := vals_of_at (α := α) (us := us) (ds := ds) (R := R) (by simpa using e) fun i u d hu hd => h (i + 1) u d hu hd
    refine ⟨(u, v, d) :: L, by rw [List.map_cons, e1], by rw [List.map_cons, e2], fun t ht => ?_⟩
    rcases List.mem_cons.mp ht with rfl | ht
    · exact r
    · exact a t ht
theorem cr_srt (hc : X.calm = true) {n : Nat} : CallR X (.builtin "sorted") (rSrt T X.K n) := by
  intro pins s σ H vs us Q I r h
  obtain ⟨a, G, ds, rfl, hs, ok, q⟩ := h
  rw [Vals.ref1 r]
  rcases hs with ⟨xs, hs, rx⟩ | hs
  · obtain ⟨its, rv, hl, hz⟩ := I.list hs
    obtain ⟨L, e1, e2, e3, hL⟩ := trips rx rv
    subst e1; subst e3
    have SV := srtV_trip I.hok hL ok
    refine SrtO.sorted_ord (ltv_swo s.heap n) hl.isList (by rw [← rv.length]; exact hz) (fun h2 h₁ a' ha' kk => ?_) fun out h1 h2 => ?_
    · intro h' keep
      have ne : ∀ b o, s.heap.get? b = some o → b ≠ a' := fun b o e => (kk b o e).1
      exact sortable_v SV h2 (fun o e c => absurd rfl (ne a' o e)) h' fun b o hb e => keep b o hb (kk b o e).2
    · obtain ⟨L', p, eo, ed⟩ := srt_res I.hok hL ok h1 h2
      have hL' : ∀ t ∈ L', RelV t.2.1 t.1 ∧ RV T X.K G H t.2.1 t.2.2 := fun t ht => hL t (p.mem_iff.mp ht)
      obtain ⟨ep, he'⟩ := PyProof.Rows.sortedAll_at s.heap (L.map (·.1)) out.toArray
      have hv : Vals (L'.map (·.2.1)) out := by rw [eo]; exact trip_vals fun t ht => (hL' t ht).1
      have hlen : (L'.map (·.2.1)).length ≤ sizeLine := by
        rw [List.length_map, p.length_eq]
        rw [← e2, List.length_map] at hz
        exact hz
      exact ⟨.ref _, upd H (s.heap.objs.size + 1) (.lst (L'.map (·.2.1))), I.laid (t' := s.toks) (fun _ _ => PyProof.Rows.sortedAll_old) (Nat.le_succ _) ⟨hlen, out, ep, hv, he'⟩, rfl,
        q _ _ (by rw [← ed]; exact trip_rvs fun t ht => (hL' t ht).2) (I.hok.fresh (Nat.le_succ _))⟩
  · obtain ⟨hsm, o, es, ep, ho, hx, hdt, hsz, hln, at_⟩ := dict_keys I.hok hs
    refine Calls.call_function_entry kind_sorted plain_sorted entry_sorted (args_sorted1 _) ?_
    unfold Builtin.«sorted»
    refine wpAny_bind (m := checkCount "sorted" 1 1 _) (wpAny_pure ?_)
    refine wpAny_bind (PySem.W.kdu_collect (A := X.A.in1) (kdl_raw hsm hx hdt) (I.ok.hd hc) ho hln fun h' tk acc hk hacc => ?_)
    have hl : acc.toList.length = es.size := by rw [Array.length_toList]; exact hacc.1
    obtain ⟨L, e1, e3, hL⟩ := vals_of_at (α := Unit) (us := acc.toList) (ds := ds) (R := fun u v d => RelV v u ∧ RV T X.K G H v d) (by omega) fun i u d hu hd => by
      obtain ⟨en, hen, rfl⟩ := hacc.2 i u (by rw [← Array.getElem?_toList]; exact hu)
      obtain ⟨v, r1, r2⟩ := at_ i en d hen hd
      exact ⟨v, r1, r2⟩
    have I2 : Inv X pins σ H { s with heap := h', toks := tk } := I.kept (t' := tk) hk
    have hok' : HOk X.prog X.w H h' := I2.hok
    subst e3
    have SV := srtV_trip hok' hL ok
    rw [e1] at SV
    refine wpAny_bind (wpAny_newList ?_ (by rw [hl]; exact hln))
    have hoL : (h'.push (seqObj "list" acc.toList.toArray 0)).get? h'.objs.size = some (seqObj "list" acc.toList.toArray 0) := Heap.get?_push_size _ rfl
    have kp : ∀ b o, h'.get? b = some o → (h'.push (seqObj "list" acc.toList.toArray 0)).get? b = some o := fun b o e => Heap.get?_push_of_some _ e
    refine wpAny_bind (wpAny_holding (wpAny_call_entry slot_list_sort ⟨_, hoL, rfl⟩ entry_list_sort (list_sort_ord (s := { s with heap := h'.push (seqObj "list" acc.toList.toArray 0), toks := tk }) (ltv_swo h' n) hoL (by rw [hl]; exact hln) (fun h2 => ?_) fun out hs1 hb => ⟨_, rfl, ?_⟩) (args_list_sort _)))
    · intro h2' keep
      exact sortable_v (s := { s with heap := h', toks := tk }) (a := h'.objs.size) SV h2 (fun o e => absurd (Heap.lt_size e) (Nat.lt_irrefl _)) h2' fun b o hb e => keep b o hb (kp b o e)
    · rw [← e1] at hb
      obtain ⟨L', p, eo, ed⟩ := srt_res hok' hL ok hs1 hb
      have hL' : ∀ t ∈ L', RelV t.2.1 t.1 ∧ RV T X.K G H t.2.1 t.2.2 := fun t ht => hL t (p.mem_iff.mp ht)
      have hv : Vals (L'.map (·.2.1)) out := by rw [eo]; exact trip_vals fun t ht => (hL' t ht).1
      obtain ⟨ep2, he'⟩ := PyProof.Rows.sortedHeap_at (vs := acc.toList) (out := out.toArray) hoL
      have hlen : (L'.map (·.2.1)).length ≤ sizeLine := by
        have := congrArg List.length e1
        rw [List.length_map] at this
        rw [List.length_map, p.length_eq, this, hl]
        exact hln
      refine wpAny_pure ⟨_, rfl, .ref h'.objs.size, upd H h'.objs.size (.lst (L'.map (·.2.1))), I2.laid (t' := tk) (fun b o e => ?_) (Nat.le_refl _) ⟨hlen, out, ep2, hv, he'⟩, rfl,
        q _ _ (by rw [← ed]; exact trip_rvs fun t ht => (hL' t ht).2) (I2.hok.fresh (Nat.le_refl _))⟩
      have e1 := kp b o e
      rw [PyProof.Rows.sortedHeap_old (Nat.ne_of_lt (Heap.lt_size e)) (Heap.lt_size e1)]
      exact e1
end
end BB

namespace BB
open PySem PySem.Spec PyProof.Rows L2 SrtO
section
variable {T : Tab} {K : PySem.W.Frag} {B : Bs} {G : Gh} {H H' : Hp} {s : S} {σ : St}
/-- more stands behind -/
abbrev More (H H' : Hp) : Prop := ∀ b o, H b = some o → H' b = some o
theorem pers_grow (hF : ∀ a, G.F a → H a ≠ none) (k : More H H') : Pers G H G H' :=
  ⟨fun _ _ h => h, fun _ h => h, fun a h => (by
    cases e : H a with
    | none => exact absurd e (hF a h)
    | some u => exact k a u e), fun a xs h => k _ _ h, fun a o u h => k _ _ h, fun a fs h => k _ _ h⟩
theorem Rel.grow (hR : Rel T K B G s σ H) (k : More H H') : Rel T K B G s σ H' := by
  have P : Pers G H G H' := pers_grow hR.c.Fd k
  refine ⟨hR.len, fun i x e => (hR.sl i x e).mono P fun a u _ _ q => k a u q, hR.own1, hR.own2, ⟨hR.c.len, fun i x a e1 e2 => (hR.c.bx i x a e1 e2).mono P fun u q => k a u q, hR.c.nd, hR.c.ioF, fun a h z => ?_⟩, ?_⟩
  · have := hR.c.Fd a h
    cases e : H a with
    | none => exact this e
    | some u => rw [k a u e] at z; cases z
  · refine ⟨hR.b.p.trans P, fun a u e n => k a u (hR.b.keep a u e n), fun a e z => ?_, hR.b.nio, hR.b.nF⟩
    have := hR.b.dom a e
    cases q : H a with
    | none => exact this q
    | some u => rw [k a u q] at z; cases z
theorem Stp.grow (hR : Rel T K B G s σ H) (k : More H H') : Stp σ G s H G s H' :=
  ⟨pers_grow hR.c.Fd k, fun a u h _ _ => k a u h, fun a h z => (by
    cases e : H a with
    | none => exact h e
    | some u => rw [k a u e] at z; cases z), fun a h n => absurd h n, fun a h n => absurd h n, fun _ h => h⟩
end
section
variable {X : Cx} {T : Tab}
/-- tuples that stand in the heap are tracked -/
theorem takeL {pins : List (Addr × Obj)} {σ : St} {H0 : Hp} {s : Shared} {h' : Heap} {tk : Nat} {P : Addr → List V → Prop} (I0 : Inv X pins σ H0 s) : ∀ (L : List Addr) (H1 : Hp), Inv X pins σ H1 { s with heap := h', toks := tk } → L.Nodup →
    (∀ a ∈ L, s.heap.objs.size ≤ a ∧ H1 a = none ∧ ∃ vs, P a vs ∧ ∀ H2, ObjOk X.prog X.w H2 h' a (.tup vs)) →
    ∃ H2, Inv X pins σ H2 { s with heap := h', toks := tk } ∧ More H1 H2 ∧ (∀ b, H2 b ≠ none → H1 b ≠ none ∨ b ∈ L) ∧ ∀ a ∈ L, ∃ vs, P a vs ∧ H2 a = some (.tup vs)
  | [], H1, I1, _, _ => ⟨H1, I1, fun _ _ e => e, fun _ h => .inl h, fun _ h => nomatch h⟩
  | a :: L, H1, I1, hn, h => by
    obtain ⟨hb, hnone, vs, hP, ok⟩ := h a (List.mem_cons_self ..)
    have I2 : Inv X pins σ (upd H1 a (.tup vs)) { s with heap := h', toks := tk } := I1.take (h' := h') (t' := tk) (fun b ob _ e => e) (I0.fpOk hb hnone) (ok _)
    rw [List.nodup_cons] at hn
    obtain ⟨H2, I3, g, f, q⟩ := takeL I0 L (upd H1 a (.tup vs)) I2 hn.2 fun c hc => by
      obtain ⟨c1, c2, c3⟩ := h c (List.mem_cons_of_mem _ hc)
      exact ⟨c1, by rw [upd_ne (fun z => hn.1 (by rw [← z]; exact hc))]; exact c2, c3⟩
    refine ⟨H2, I3, fun b o e => g b o (by rw [upd_ne (ne_of_none e hnone)]; exact e), fun b hb => ?_, fun c hc => ?_⟩
    · rcases f b hb with hb | hb
      · by_cases z : b = a
        · exact .inr (by rw [z]; exact List.mem_cons_self ..)
        · rw [upd_ne z] at hb; exact .inl hb
      · exact .inr (List.mem_cons_of_mem _ hb)
    · rcases List.mem_cons.mp hc with rfl | hc
      · exact ⟨vs, hP, g _ _ upd_same⟩
      · exact q c hc
theorem nodup_ix {α : Type} {x : α} : ∀ {l : List α} {i j : Nat}, l.Nodup → l[i]? = some x → l[j]? = some x → i = j
  | [], i, j, _, h, _ => by cases h
  | y :: l, 0, 0, _, _, _ => rfl
  | y :: l, 0, j + 1, n, h, h2 => by
    cases h
    exact absurd (List.mem_of_getElem? (show l[j]? = _ from h2)) (List.nodup_cons.mp n).1
  | y :: l, i + 1, 0, n, h, h2 => by
    cases h2
    exact absurd (List.mem_of_getElem? (show l[i]? = _ from h)) (List.nodup_cons.mp n).1
  | y :: l, i + 1, j + 1, n, h, h2 => by rw [nodup_ix (List.nodup_cons.mp n).2 h h2]
/-- a list that was just made is sorted -/
theorem sort_tail {pins : List (Addr × Obj)} {σ : St} {H : Hp} {s : Shared} {h' : Heap} {tk n : Nat} {L : List Trip} {G : Gh} {Q : VK} {A : Around} (I2 : Inv X pins σ H { s with heap := h', toks := tk }) (hL : ∀ t ∈ L, RelV t.2.1 t.1 ∧ RV T X.K G H t.2.1 t.2.2) (ok : okSrt n (L.map (·.2.2)) = true) (hz : L.length ≤ sizeLine)
    (q : ∀ ys p, RVs T X.K G H ys (srtL (ltS n) (L.map (·.2.2))) → p = h'.objs.size → H p = none → Q (.ref p) (upd H p (.lst ys))) :
    wpAny (model X.prog X.w) A (call (.builtin "list.sort") [.ref h'.objs.size]) (fun _ s' => EP X pins σ Q (.ref h'.objs.size) s') X.xe { s with heap := h'.push (seqObj "list" (L.map (·.1)).toArray 0), toks := tk } := by
  have SV := srtV_trip I2.hok hL ok
  have hoL : (h'.push (seqObj "list" (L.map (·.1)).toArray 0)).get? h'.objs.size = some (seqObj "list" (L.map (·.1)).toArray 0) := Heap.get?_push_size _ rfl
  have kp : ∀ b o, h'.get? b = some o → (h'.push (seqObj "list" (L.map (·.1)).toArray 0)).get? b = some o := fun b o e => Heap.get?_push_of_some _ e
  refine wpAny_call_entry slot_list_sort ⟨_, hoL, rfl⟩ entry_list_sort (list_sort_ord (s := { s with heap := h'.push (seqObj "list" (L.map (·.1)).toArray 0), toks := tk }) (ltv_swo h' n) hoL (by rw [List.length_map]; exact hz) (fun h2 => ?_) fun out hs1 hb => ⟨_, rfl, ?_⟩) (args_list_sort _)
  · intro h2' keep
    exact sortable_v (s := { s with heap := h', toks := tk }) (a := h'.objs.size) SV h2 (fun o e => absurd (Heap.lt_size e) (Nat.lt_irrefl _)) h2' fun b o hb e => keep b o hb (kp b o e)
  · obtain ⟨L', p, eo, ed⟩ := srt_res I2.hok hL ok hs1 hb
    have hL' : ∀ t ∈ L', RelV t.2.1 t.1 ∧ RV T X.K G H t.2.1 t.2.2 := fun t ht => hL t (p.mem_iff.mp ht)
    have hv : Vals (L'.map (·.2.1)) out := by rw [eo]; exact trip_vals fun t ht => (hL' t ht).1
    obtain ⟨ep2, he'⟩ := PyProof.Rows.sortedHeap_at (vs := L.map (·.1)) (out := out.toArray) hoL
    have hlen : (L'.map (·.2.1)).length ≤ sizeLine := by rw [List.length_map, p.length_eq]; exact hz
    refine ⟨.ref h'.objs.size, upd H h'.objs.size (.lst (L'.map (·.2.1))), I2.laid (t' := tk) (fun b o e => ?_) (Nat.le_refl _) ⟨hlen, out, ep2, hv, he'⟩, rfl,
      q _ _ (by rw [← ed]; exact trip_rvs fun t ht => (hL' t ht).2) rfl (I2.hok.fresh (Nat.le_refl _))⟩
    have e1 := kp b o e
    rw [PyProof.Rows.sortedHeap_old (Nat.ne_of_lt (Heap.lt_size e)) (Heap.lt_size e1)]
    exact e1
/-- d.items() -/
def rItemsD : V → List V → Hp → VK → Prop := fun x xs H Q => ∃ a : Addr, x = .ref a ∧ xs = [] ∧ ((∃ kvs, H a = some (.dK kvs)) ∨ ∃ kvs, H a = some (.dT kvs)) ∧ ∀ p, H p = none → Q (.ref p) (upd H p (DX.itemsO p a))
theorem dict_raw {P : Program} {w : World} {H : Hp} {h : Heap} {a : Addr} (hok : HOk P w H h) (e : (∃ kvs, H a = some (.dK kvs)) ∨ ∃ kvs, H a = some (.dT kvs)) : (a == sysModules) = false ∧ ∃ es ep, DT.Raw h a es ep := by
  rcases e with ⟨kvs, e⟩ | ⟨kvs, e⟩
  · obtain ⟨z, hs, vs, kv, o, es, ep, ho, hx, hdt, _⟩ := dk_of hok e
    exact ⟨hs, es, ep, o, ho, hx, hdt⟩
  · obtain ⟨z, hs, xs, pr, o, es, ep, ho, hx, hdt, _⟩ := dt_of hok e
    exact ⟨hs, es, ep, o, ho, hx, hdt⟩
theorem mt_itemsD : MtR X "dict.items" rItemsD := by
  intro pins s σ H x xs v us Q I rx rxs h
  obtain ⟨a, rfl, rfl, ha, q⟩ := h
  cases rx
  cases rxs
  obtain ⟨hd, es, ep, raw⟩ := dict_raw I.hok ha
  refine DT.callItems (es := es) (ep := ep) hd raw ?_
  have hf : H s.heap.objs.size = none := I.hok.fresh (Nat.le_refl _)
  exact ⟨.ref s.heap.objs.size, upd H s.heap.objs.size (DX.itemsO s.heap.objs.size a), I.laid (t' := s.toks) (fun b u e => Heap.get?_push_of_some _ e) (Nat.le_refl _) (DX.itemsO_ok (Heap.get?_push_size _ rfl)), rfl, q _ hf⟩
/-- sorted(d.items()) -/
def rSrtI (T : Tab) (K : PySem.W.Frag) : List V → Hp → VK → Prop := fun vs H Q => ∃ (p a : Addr) (G : Gh) (l : List (D × D)), vs = [.ref p] ∧ H p = some (DX.itemsO p a) ∧
  ((∃ kvs, H a = some (.dK kvs) ∧ RKs T K G H kvs l) ∨ ∃ kvs, H a = some (.dT kvs) ∧ RTs T K G H kvs l) ∧ okSrt 1 (l.map pairT) = true ∧ (∀ x, G.F x → H x ≠ none) ∧
  ∀ H' ys q, More H H' → RVs T K G H' ys (srtL (ltS 1) (l.map pairT)) → H' q = none → Q (.ref q) (upd H' q (.lst ys))
theorem dict_pairs {P : Program} {w : World} {K : PySem.W.Frag} {G : Gh} {H : Hp} {h : Heap} {a : Addr} {l : List (D × D)} (hok : HOk P w H h)
    (e : (∃ kvs, H a = some (.dK kvs) ∧ RKs T K G H kvs l) ∨ ∃ kvs, H a = some (.dT kvs) ∧ RTs T K G H kvs l) {es : Array DictEntry} {ep : Nat} (raw : DT.Raw h a es ep) :
    es.size = l.length ∧ es.size ≤ sizeLine ∧ ∀ (i : Nat) (en : DictEntry) (kd d : D), es[i]? = some en → l[i]? = some (kd, d) → ∃ k v, RelV k en.key ∧ RV T K G H k kd ∧ RelV v en.val ∧ RV T K G H v d := by
  obtain ⟨o0, ho0, _, hd0⟩ := raw
  rcases e with ⟨kvs, e, rk⟩ | ⟨kvs, e, rk⟩
  · obtain ⟨z, hs, vs, kv, o, es', ep', ho, hx, hdt, _, pr, _⟩ := dk_of hok e
    rw [ho0] at ho; cases ho
    obtain ⟨rfl, rfl⟩ := dict_ep hd0 hdt
    have l1 := pr.length
    have l2 : kvs.length = vs.length := Paired.length kv
    have l3 := rk.length
    rw [Array.length_toList] at l1
    refine ⟨by omega, by omega, fun i en kd d he hl => ?_⟩
    have hi : i < kvs.length := by have := (List.getElem?_eq_some_iff.mp hl).1; omega
    obtain ⟨⟨k, v⟩, hkv⟩ : ∃ p, kvs[i]? = some p := ⟨_, List.getElem?_eq_getElem hi⟩
    obtain ⟨kd', d', h1, h2, h3⟩ := rk.at hkv
    rw [hl] at h1
    cases h1
    obtain ⟨⟨k', u⟩, hu, e1, e2⟩ := L2.paired_get kv hkv
    dsimp only at e1 e2
    subst e1
    obtain ⟨kk, ev⟩ := pr.get? (by rw [Array.getElem?_toList]; exact he) hu
    exact ⟨kV k, v, relV_key kk, key_rv h2, by rw [ev]; exact e2, h3⟩
  · obtain ⟨z, hs, xs, pr, o, es', ep', ho, hx, hdt, he, _⟩ := dt_of hok e
    rw [ho0] at ho; cases ho
    obtain ⟨rfl, rfl⟩ := dict_ep hd0 hdt
    have l1 : es'.size = xs.length := size_of_entries he
    have l2 : kvs.length = xs.length := Paired.length pr
    have l3 := rk.length
    refine ⟨by omega, by omega, fun i en kd d hen hl => ?_⟩
    have hi : i < kvs.length := by have := (List.getElem?_eq_some_iff.mp hl).1; omega
    obtain ⟨⟨k, v⟩, hkv⟩ : ∃ p, kvs[i]? = some p := ⟨_, List.getElem?_eq_getElem hi⟩
    obtain ⟨kd', d', h1, h2, h3⟩ := rk.at hkv
    rw [hl] at h1
    cases h1
    obtain ⟨b, hb, e1, e2, e3⟩ := L2.paired_get pr hkv
    have q := entry_at he i
    rw [hb, hen] at q
    cases q
    exact ⟨.ref b.2.1, v, rfl, tkey_rv h2 e2, e3, h3⟩
theorem cr_srti (hc : X.calm = true) : CallR X (.builtin "sorted") (rSrtI T X.K) := by
  intro pins s σ H vs us Q I r h
  obtain ⟨p, a, G, l, rfl, hp, hd, ok, hF, q⟩ := h
  rw [Vals.ref1 r]
  have view : s.heap.IsItemsView p a := (show ObjOk X.prog X.w H s.heap p (DX.itemsO p a) from I.hok p _ hp).1
  obtain ⟨hsm, es, ep, raw⟩ := dict_raw I.hok (hd.imp (fun ⟨k, e, _⟩ => ⟨k, e⟩) fun ⟨k, e, _⟩ => ⟨k, e⟩)
  obtain ⟨hsz, hln, at_⟩ := dict_pairs I.hok hd raw
  refine DT.sortedI (es := es) (ep := ep) (I.ok.hd hc) view raw hln fun h' tk as hk hlt hl hG => ?_
  have nd : as.Nodup := List.Pairwise.imp (fun h => Nat.ne_of_lt h) hG.rise
  have I1 : Inv X pins σ H { s with heap := h', toks := tk } := I.kept (t' := tk) hk
  have bigA : ∀ b ∈ as, s.heap.objs.size ≤ b := fun b hb => Nat.le_of_lt (hG.above b hb)
  have pr : ∀ (j : Nat) (b : Addr), as[j]? = some b → ∃ kd d k v en, l[j]? = some (kd, d) ∧ es[j]? = some en ∧ RelV k en.key ∧ RV T X.K G H k kd ∧ RelV v en.val ∧ RV T X.K G H v d ∧ h'.get? b = some { cls := .type "tuple", data := .seq #[en.key, en.val] } := fun j b hj => by
    obtain ⟨en, he, hg⟩ := hG.pairs j b hj
    have hjl : j < l.length := by have := (List.getElem?_eq_some_iff.mp hj).1; omega
    obtain ⟨⟨kd, d⟩, hkd⟩ : ∃ p, l[j]? = some p := ⟨_, List.getElem?_eq_getElem hjl⟩
    obtain ⟨k, v, a1, a2, a3, a4⟩ := at_ j en kd d he hkd
    exact ⟨kd, d, k, v, en, hkd, he, a1, a2, a3, a4, hg⟩
  obtain ⟨H2, I2, more, onl, tr⟩ := takeL (P := fun b vs => ∀ j, as[j]? = some b → ∃ kd d k v, l[j]? = some (kd, d) ∧ vs = [k, v] ∧ RV T X.K G H k kd ∧ RV T X.K G H v d) I as H I1 nd fun b hb => by
    obtain ⟨j, hj⟩ := List.mem_iff_getElem?.mp hb
    obtain ⟨kd, d, k, v, en, h1, h2, h3, h4, h5, h6, h7⟩ := pr j b hj
    refine ⟨bigA b hb, I.hok.fresh (bigA b hb), [k, v], fun j' hj' => ?_, fun H2 => ⟨by show 2 ≤ sizeLine; decide, [en.key, en.val], .cons h3 (.cons h5 .nil), ⟨_, h7, rfl, _, rfl⟩⟩⟩
    have ej : j' = j := by
      exact nodup_ix nd hj' hj
    subst ej
    exact ⟨kd, d, k, v, h1, rfl, h4, h6⟩
  have P2 : Pers G H G H2 := pers_grow hF more
  obtain ⟨L, e1, e3, hL⟩ := vals_of_at (α := Unit) (us := as.map Value.ref) (ds := l.map pairT) (R := fun u v d => RelV v u ∧ RV T X.K G H2 v d) (by rw [List.length_map, List.length_map]; omega) fun i u d hu hd => by
    rw [List.getElem?_map] at hu hd
    cases ha : as[i]? with
    | none => rw [ha] at hu; cases hu
    | some b =>
      rw [ha] at hu
      cases hu
      obtain ⟨vs, hP, ht⟩ := tr b (List.mem_of_getElem? ha)
      obtain ⟨kd, y, k, v, h1, rfl, h2, h3⟩ := hP i ha
      rw [h1] at hd
      cases hd
      exact ⟨.ref b, rfl, .tup ht (.cons (h2.mono P2) (.cons (h3.mono P2) .nil))⟩
  have eL : L.length = es.size := by
    have := congrArg List.length e1
    rw [List.length_map, List.length_map, hl] at this
    exact this
  rw [← e3] at ok
  have z := sort_tail (T := T) (A := X.A.in1) (G := G) (Q := Q) I2 hL ok (by rw [eL]; exact hln) fun ys p ry ep hn => q H2 ys p more (by rw [← e3]; exact ry) hn
  rw [e1] at z
  exact z
end
end BB
namespace BB
open PySem PySem.Spec PyProof.Rows L2
section
variable {X : Cx} {T : Tab} {B : Bs} {W : WX}
theorem sE_srt {n : Nat} {e : Expr} {c : S → Oc R} {px p : Pos} (hc : X.calm = true) (hg : Gl X "sorted") (hm : X.mg "sorted" = none) (he : PE X e (tE T X.K B W c)) (hst : starEach [e] X.env = (false, eval e X.env) :: starEach [] X.env) :
    PE X (.Call (.Name "sorted" px) [e] [] p) (tE T X.K B W fun s => (c s).bind fun r s1 => srtR n (view s1 r) s1) := by
  refine pe_imp (pe_callB (cr_srt (T := T) (n := n) hc) hg hm (by decide +kernel) (pa_cons he pa_nil hst) (by decide) (by decide) hst rfl) fun σ H Q ⟨G, s, hR, q⟩ => ?_
  refine ⟨G, s, hR, at_bind q (.refl _ _ _ _) fun r s1 G1 H1 v st z1 R1 p1 q1 => ?_⟩
  unfold srtR at q1
  split at q1
  · rename_i l hv
    unfold srt1 at q1
    split at q1
    · rename_i ok
      cases view_ok R1 p1 hv with
      | ls e rv => exact ⟨_, G1, l, rfl, .inl ⟨_, .inl e, rv⟩, ok, fun ys p ry hp => at_new q1 z1 R1 (.lst hp ry)⟩
    · exact q1.elim
  · rename_i t l hv
    unfold srt1 at q1
    split at q1
    · rename_i ok
      cases view_ok R1 p1 hv with
      | dcK e rv => exact ⟨_, G1, _, rfl, .inr (.inl ⟨_, l, e, rv, rfl⟩), ok, fun ys p ry hp => at_new q1 z1 R1 (.lst hp ry)⟩
      | dcT e rv => exact ⟨_, G1, _, rfl, .inr (.inr ⟨_, l, e, rv, rfl⟩), ok, fun ys p ry hp => at_new q1 z1 R1 (.lst hp ry)⟩
    · exact q1.elim
  · exact q1.elim
theorem sE_srti {e : Expr} {c : S → Oc R} {pa pc px p : Pos} (hc : X.calm = true) (hg : Gl X "sorted") (hm : X.mg "sorted" = none) (he : PE X e (tE T X.K B W c)) (hbase : attributeBase e "items" X.env (eval e X.env) = eval e X.env) (hline : (pa.endLine == pc.line) = true) :
    PE X (.Call (.Name "sorted" px) [.Call (.Attribute e "items" pa) [] [] pc] [] p) (tE T X.K B W fun s => (c s).bind fun r s1 => srtiR (view s1 r) s1) := by
  refine pe_imp (pe_callB (cr_srti (T := T) hc) hg hm (by decide +kernel) (pa_cons (pe_bm0 F.plainAttrs_dict F.slot_dict_items F.type_dict_items mt_itemsD he hbase hline) pa_nil rfl) (by decide) (by decide) rfl rfl) fun σ H Q ⟨G, s, hR, q⟩ => ?_
  refine ⟨G, s, hR, at_bind q (.refl _ _ _ _) fun r s1 G1 H1 v st z1 R1 p1 q1 => ?_⟩
  unfold srtiR at q1
  split at q1
  · rename_i t l hv
    unfold srt1 at q1
    split at q1
    · rename_i ok
      have fin : ∀ (a pp : Addr), H1 pp = none → ∀ H' ys q, More (upd H1 pp (DX.itemsO pp a)) H' → RVs T X.K G1 H' ys (srtL (ltS 1) (l.map pairT)) → H' q = none → Q (.ref q) (upd H' q (.lst ys)) := fun a pp hp H' ys q mo ry hq => by
        have R2 := R1.laid (o := DX.itemsO pp a) hp
        exact at_new q1 (z1.trans ((Stp.laid R1 hp).trans (Stp.grow R2 mo))) (R2.grow mo) (.lst hq ry)
      cases view_ok R1 p1 hv with
      | @dcK a vs _ e rv =>
        refine ⟨.inr (.inr (.inl ⟨rfl, .inl ⟨_, e⟩⟩)), a, rfl, rfl, .inl ⟨_, e⟩, fun pp hp => ?_⟩
        exact ⟨pp, a, G1, l, rfl, upd_same, .inl ⟨vs, by rw [upd_ne (ne_of_none e hp)]; exact e, RKs.mono (pers_upd hp R1.c) rv⟩, ok, fun x hx => (R1.laid (o := DX.itemsO pp a) hp).c.Fd x hx, fin a pp hp⟩
      | @dcT a vs _ e rv =>
        refine ⟨.inr (.inr (.inl ⟨rfl, .inr ⟨_, e⟩⟩)), a, rfl, rfl, .inr ⟨_, e⟩, fun pp hp => ?_⟩
        exact ⟨pp, a, G1, l, rfl, upd_same, .inr ⟨vs, by rw [upd_ne (ne_of_none e hp)]; exact e, RTs.mono (pers_upd hp R1.c) rv⟩, ok, fun x hx => (R1.laid (o := DX.itemsO pp a) hp).c.Fd x hx, fin a pp hp⟩
    · exact q1.elim
  · exact q1.elim
end
end BB

namespace BB
open PySem PySem.Spec PyProof.Rows L2 SrtO
/-! sorted by a key that is a def -/
/-- a key, an item, what both are -/
structure Qd where
  kv : Value
  kw : V
  kd : D
  iv : Value
  iw : V
  id : D
theorem quads : ∀ {kvs : List Value} {kws : List V} {kds : List D} {ivs : List Value} {iws : List V} {ids : List D}, kvs.length = kws.length → kws.length = kds.length → kvs.length = ivs.length → ivs.length = iws.length → iws.length = ids.length →
    ∃ Z : List Qd, Z.map (·.kv) = kvs ∧ Z.map (·.kw) = kws ∧ Z.map (·.kd) = kds ∧ Z.map (·.iv) = ivs ∧ Z.map (·.iw) = iws ∧ Z.map (·.id) = ids
  | [], [], [], [], [], [], _, _, _, _, _ => ⟨[], rfl, rfl, rfl, rfl, rfl, rfl⟩
  | a :: as, b :: bs, c :: cs, d :: ds, e :: es, f :: fs, h1, h2, h3, h4, h5 => by
    simp only [List.length_cons] at h1 h2 h3 h4 h5
    obtain ⟨Z, e1, e2, e3, e4, e5, e6⟩ := quads (kvs := as) (kws := bs) (kds := cs) (ivs := ds) (iws := es) (ids := fs) (by omega) (by omega) (by omega) (by omega) (by omega)
    exact ⟨⟨a, b, c, d, e, f⟩ :: Z, by simp [e1], by simp [e2], by simp [e3], by simp [e4], by simp [e5], by simp [e6]⟩
  | [], _ :: _, _, _, _, _, h, _, _, _, _ => by simp at h
  | _ :: _, [], _, _, _, _, h, _, _, _, _ => by simp at h
  | [], [], _ :: _, _, _, _, _, h, _, _, _ => by simp at h
  | _ :: _, _ :: _, [], _, _, _, _, h, _, _, _ => by simp at h
  | [], [], [], _ :: _, _, _, _, _, h, _, _ => by simp at h
  | _ :: _, _ :: _, _ :: _, [], _, _, _, _, h, _, _ => by simp at h
  | [], [], [], [], _ :: _, _, _, _, _, h, _ => by simp at h
  | _ :: _, _ :: _, _ :: _, _ :: _, [], _, _, _, _, h, _ => by simp at h
  | [], [], [], [], [], _ :: _, _, _, _, _, h => by simp at h
  | _ :: _, _ :: _, _ :: _, _ :: _, _ :: _, [], _, _, _, _, h => by simp at h
section
variable {prog : Program} {w : World} {A : Around} {E : Value → Shared → Prop} {s : Shared}
/-- the end: keys and items are there -/
theorem key_end {a kS : Addr} {ks vs : List Value} {e e1 : Nat} {ltv : Value → Value → Bool} {P : PySem.Fin → Shared → Prop} (O : Swo ltv) (nk : s.heap.get? kS = some (seqObj "list" ks.toArray e)) (na : s.heap.get? a = some (seqObj "list" #[] e1)) (hka : kS ≠ a) (hl : ks.length = vs.length) (hz : vs.length ≤ sizeLine)
    (hS : 2 ≤ ks.length → ∃ κ, (∀ (Q : SortKind → Shared → Prop) (E : Value → Shared → Prop), Q κ s → wpAny (model prog w) A (keyKind' ks.toArray) Q E s) ∧ Cmp prog w A s κ (fun p => p.1 ∈ ks) (lt2 ltv))
    (h : ∀ out : List Keyed, Srtd (lt2 ltv) out → Stb (lt2 ltv) out (ks.zip vs) → ∀ g1 h' : Heap, (∀ b o, b ≠ kS → s.heap.get? b = some o → g1.get? b = some o) → (∀ b o, b ≠ a → g1.get? b = some o → h'.get? b = some o) → (∃ c, h'.get? a = some (seqObj "list" (out.map (·.2)).toArray c)) → P (.done (.ret .none)) { s with heap := h' }) :
    wpAny (model prog w) A (ksk_end a false vs.toArray e1 (.ref kS) ks.toArray) P E s := by
  have tail : ∀ st' : SortSt, Srtd (lt2 ltv) (arrOf st').toList → Stb (lt2 ltv) (arrOf st').toList (ks.zip vs) → failedOf st' = none → wpAny (model prog w) A (ksk_tail a false e1 (.ref kS) st') P E s := by
    intro st' h1 h2 hf
    have hlen : (arrOf st').size = vs.length := by
      have := h2.len
      rw [Array.length_toList, List.length_zip, hl] at this
      omega
    have na1 : (s.heap.update kS (Obj.mapSeq fun _ => (#[] : Array Value))).get? a = some (seqObj "list" #[] e1) := (Heap.get?_update_ne _ _ _ _ hka.symm).trans na
    have eo : ((arrOf st').map (·.2)) = ((arrOf st').toList.map (·.2)).toArray := by
      apply Array.toList_inj.mp
      rw [Array.toList_map]
    unfold ksk_tail
    try dsimp only
    refine wpAny_bind (listUpdate_at nk rfl ?_ (by rw [List.size_toArray, hl]; exact hz) (Nat.zero_le _))
    refine wpAny_bind (wpAny_letGo ?_)
    refine wpAny_bind (seqEpoch_at na1 rfl ?_)
    refine wpAny_bind (listUpdate_at na1 rfl ?_ (Nat.zero_le _) (by simp only [Bool.false_eq_true, if_false, Array.size_map]; rw [hlen]; omega))
    rw [hf]
    simp only [bne_self_eq_false, Bool.false_eq_true, if_false]
    refine wpAny_pure (h _ h1 h2 (s.heap.update kS (Obj.mapSeq fun _ => (#[] : Array Value))) _ (fun b o hb e => (Heap.get?_update_ne _ _ _ _ hb).trans e) (fun b o hb e => (Heap.get?_update_ne _ _ _ _ hb).trans e) ?_)
    rw [← eo]
    exact ⟨_, get?_update_seq na1 fun _ => (arrOf st').map (·.2)⟩
  unfold ksk_end
  try dsimp only
  simp only [Bool.false_eq_true, if_false]
  have est : (ks.toArray.zip vs.toArray).toList = ks.zip vs := by simp
  by_cases h2 : vs.toArray.size < 2
  · rw [if_pos h2, if_pos h2]
    refine wpAny_bind (wpAny_pure ?_)
    rw [StateT.run_pure]
    refine wpAny_bind (wpAny_pure ?_)
    try dsimp only
    refine tail (SortSt.mk' general' (ks.toArray.zip vs.toArray) #[] 7 none) ?_ (Stb.of_eq est) rfl
    show Srtd (lt2 ltv) (ks.toArray.zip vs.toArray).toList
    rw [est]
    rw [List.size_toArray] at h2
    match ks, vs, hl, h2 with
    | [], _, _, _ => exact List.Pairwise.nil
    | [k], [v], _, _ => exact List.pairwise_singleton _ _
    | [k], [], hl, _ => exact absurd hl (by simp)
    | [k], _ :: _ :: _, hl, _ => exact absurd hl (by simp)
    | _ :: _ :: _, [], hl, _ => exact absurd hl (by simp)
    | _ :: _ :: _, [_], hl, _ => exact absurd hl (by simp)
    | _ :: _ :: _, _ :: _ :: _, _, h2 => exact absurd h2 (by simp)
  · rw [if_neg h2, if_neg h2]
    rw [List.size_toArray] at h2
    obtain ⟨κ, hk, hT⟩ := hS (by omega)
    refine wpAny_bind (hk _ _ ?_)
    have hall : AllL (fun p : Keyed => p.1 ∈ ks) (ks.toArray.zip vs.toArray).toList := fun p hm => by
      rw [est] at hm
      exact (List.of_mem_zip (a := p.1) (b := p.2) hm).1
    refine wpAny_bind (wpAny_mono (wpS_sortO (st0 := SortSt.mk' κ (ks.toArray.zip vs.toArray) #[] 7 none)
      (Q := fun _ st' => Srtd (lt2 ltv) (arrOf st').toList ∧ Stb (lt2 ltv) (arrOf st').toList (ks.toArray.zip vs.toArray).toList ∧ failedOf st' = none) (swo2 O) hT rfl hall rfl rfl fun st' a1 a2 a3 => ⟨a1, a2, a3⟩) ?_ fun _ _ e => e)
    rintro ⟨⟨⟩, st'⟩ s' ⟨rfl, hp1, hp2, hf⟩
    try dsimp only
    rw [est] at hp2
    exact tail st' hp1 hp2 hf
end
end BB

namespace BB
open PySem PySem.Spec PyProof.Rows L2 SrtO
section
variable {X : Cx} {T : Tab} {PG : Prog} {k : Nat}
/-- what a key's def needs -/
structure KeyFn (X : Cx) (PG : Prog) (T : Tab) (k n : Nat) : Prop where
  fn : ∃ f fd ps, PG.fns[n]? = some f ∧ 1 = f.ps ∧ FnOk X.prog X.w X.K X.mg X.base (L2.CX X.prog X.w) (2 * k + 1) (T.f n) fd ps (spF T X.K PG k n) ∧ L2.Binds X.K fd ps []
theorem keysOf_cons {cal : Nat → List D → Sto → CR} {n : Nat} {d : D} {ds ks : List D} {st st2 : Sto} (h : keysOf cal n (d :: ds) st = some (ks, st2)) : ∃ kd st1 r, cal n [d] st = .ok (.va kd) st1 ∧ keysOf cal n ds st1 = some (r, st2) ∧ ks = kd :: r := by
  unfold keysOf at h
  split at h
  · rename_i kd st1 e
    split at h
    · rename_i r st3 e2
      cases h
      exact ⟨kd, st1, r, e, e2, rfl⟩
    · cases h
  · cases h
/-- one key -/
theorem key_one {n : Nat} {A : Around} {pins : List (Addr × Obj)} {σ : St} {H : Hp} {s : Shared} {u : Value} {v : V} {d kd : D} {G : Gh} {st st1 : Sto} (F : KeyFn X PG T k n) (hr : Room (2 * k + 1) A) (hA : Env0 X.prog X.w X.K X.mg X.base A X.stack s H) (I : Inv X pins σ H s) (r : RelV v u) (q : RV T X.K G H v d) (R : RelC T X.K G st H) (hc : cal PG k n [d] st = .ok (.va kd) st1) :
    wpAny (model X.prog X.w) A (call (.ref (T.f n)) [u]) (fun u' s' => ∃ H' G' v', Inv X pins σ H' s' ∧ RelV v' u' ∧ Ext G H G' H' ∧ RelC T X.K G' st1 H' ∧ RV T X.K G' H' v' kd) (fun _ _ => False) s := by
  obtain ⟨f, fd, ps, hf, hp, ok, bd⟩ := F.fn
  have h : spF T X.K PG k n [v] H (fun v' H' => ∃ G', Ext G H G' H' ∧ RelC T X.K G' st1 H' ∧ RV T X.K G' H' v' kd) (fun _ _ _ => False) := by
    refine ⟨G, [d], st, R, .cons q .nil, ⟨f, hf, hp⟩, ?_⟩
    rw [hc]
    intro G' H' v' e rc rr
    cases rr with
    | va z => exact ⟨G', e, rc, z⟩
  have r1 : Vals [v] [u] := .cons r .nil
  have hl : [u].length = ps.length := by rw [← r1.length]; exact ok.len _ _ _ _ h
  have b := bd s [u] I.kIn (by rw [List.append_nil]; exact hl)
  rw [List.append_nil] at b
  refine wpAny_call (codeAny_mono (ok.run A X.stack s H ⟨[u], []⟩ [u] [v] _ _ hr hA b r1 h) fun r s' hq => ?_)
  cases r with
  | error e =>
    obtain ⟨_, _, _, _, _, _, _, _, _, _, _, _, z⟩ := hq
    exact z
  | ok fl =>
    cases fl with
    | ret u' =>
      obtain ⟨v', H', I', r', G', e, rc, z⟩ := I.after hq
      exact ⟨H', G', v', I', r', e, rc, z⟩
    | next => exact False.elim hq
    | brk => exact False.elim hq
    | cont => exact False.elim hq
theorem fpOk_step {pins : List (Addr × Obj)} {H H' : Hp} {b : Addr} (f : FpOk X pins H b) (hn : H' b = none) : FpOk X pins H' b := ⟨hn, f.2⟩
/-- the keys one by one, then the end -/
theorem key_rest {n kk : Nat} {A : Around} {pins : List (Addr × Obj)} {σ : St} {H : Hp} {s : Shared} {a kS : Addr} {e1 : Nat} {us : List Value} {xs : List V} {ds ks : List D} {G : Gh} {st st2 : Sto} {P : PySem.Fin → Shared → Prop}
    (F : KeyFn X PG T k n) (hr : Room (2 * k + 1) A) (hA : ∀ s H, Env0 X.prog X.w X.K X.mg X.base X.A X.stack s H → Env0 X.prog X.w X.K X.mg X.base A X.stack s H) (I : Inv X pins σ H s) (na : s.heap.get? a = some (seqObj "list" #[] e1)) (nk : s.heap.get? kS = some (seqObj "list" #[] 0)) (fa : FpOk X pins H a) (fk : FpOk X pins H kS) (hka : kS ≠ a)
    (rv : Vals xs us) (rx : RVs T X.K G H xs ds) (R : RelC T X.K G st H) (hk : keysOf (cal PG k) n ds st = some (ks, st2)) (ok : okSrt kk ks = true) (hz : us.length ≤ sizeLine)
    (h : ∀ G' H' ys s' , Ext G H G' H' → RelC T X.K G' st2 H' → RVs T X.K G' H' ys ((srtL (fun a b => ltS kk a.1 b.1) (ks.zip ds)).map (·.2)) → Inv X pins σ (upd H' a (.lst ys)) s' → H' a = none → P (.done (.ret .none)) s') :
    wpAny (model X.prog X.w) A (ksk_rest a (.ref (T.f n)) false us.toArray e1 (.ref kS)) P X.xe s := by
  have lx := rv.length
  have ld := rx.length
  unfold ksk_rest
  refine wpAny_bind (wpAny_rule ?_)
  first
    | rw [List.forIn_toArray]
    | (rw [← Array.forIn_toList]; simp only [List.toList_toArray])
    | rw [← Array.forIn_toList]
  refine wpAny_bind (ksk_fold (fun i s' => ∃ H' G' st' kA e kws kds rest, Inv X pins σ H' s' ∧ s'.heap.get? a = some (seqObj "list" #[] e1) ∧ s'.heap.get? kS = some (seqObj "list" kA e) ∧ FpOk X pins H' a ∧ FpOk X pins H' kS ∧ Ext G H G' H' ∧ RelC T X.K G' st' H' ∧ Vals kws kA.toList ∧ RVs T X.K G' H' kws kds ∧ kds.length = i ∧ ks = kds ++ rest ∧ keysOf (cal PG k) n (ds.drop i) st' = some (rest, st2)) us 0 s
    ⟨H, G, st, #[], 0, [], [], ks, I, na, nk, fa, fk, .refl _ _, R, .nil, .nil, rfl, rfl, hk⟩ ?step ?done)
  case step =>
    rintro j u s' hu ⟨H', G', st', kA, e, kws, kds, rest, I', na', nk', fa', fk', ex, R', vk, rk, lk, ek, hk'⟩
    simp only [Nat.zero_add] at lk hk' ⊢
    have hj : j < us.length := (List.getElem?_eq_some_iff.mp hu).1
    obtain ⟨d, hd⟩ : ∃ d, ds[j]? = some d := ⟨_, List.getElem?_eq_getElem (by omega)⟩
    obtain ⟨v, hv, rvd⟩ := rx.get hd
    obtain ⟨u', hu', ru⟩ := L2.paired_get rv hv
    rw [hu] at hu'
    cases hu'
    have edrop : ds.drop j = d :: ds.drop (j + 1) := by
      have hjd : j < ds.length := by omega
      rw [List.drop_eq_getElem_cons hjd]
      rw [List.getElem?_eq_getElem hjd] at hd
      rw [Option.some.inj hd]
    rw [edrop] at hk'
    obtain ⟨kd, st1, r, hc, hk2, rfl⟩ := keysOf_cons hk'
    have IP : Inv X ((a, seqObj "list" #[] e1) :: (kS, seqObj "list" kA e) :: pins) σ H' s' := I'.pins_of fun p hp => by
      rcases List.mem_cons.mp hp with rfl | hp
      · exact ⟨na', fa'.1, fa'.2.1, fa'.2.2.1, fun v z => nomatch z⟩
      · rcases List.mem_cons.mp hp with rfl | hp
        · exact ⟨nk', fk'.1, fk'.2.1, fk'.2.2.1, fun v z => nomatch z⟩
        · exact I'.pin p (List.mem_append_right _ hp)
    refine wpAny_bind (wpAny_attempt (wpAny_mono (key_one F hr (hA _ _ IP.env0) IP ru (rvd.mono ex.p) R' hc) (fun u2 s2 he => ?_) fun _ _ hF => hF.elim))
    obtain ⟨H2, G2, v2, I2, r2, ex2, R2, q2⟩ := he
    have pa := I2.pin (a, seqObj "list" #[] e1) (List.mem_append_right _ (List.mem_cons_self ..))
    have pk := I2.pin (kS, seqObj "list" kA e) (List.mem_append_right _ (List.mem_cons_of_mem _ (List.mem_cons_self ..)))
    have I3 : Inv X pins σ H2 s2 := I2.pins_of fun p hp => I2.pin p (List.mem_append_right _ (List.mem_cons_of_mem _ (List.mem_cons_of_mem _ hp)))
    have fa2 := fpOk_step fa' pa.2.1
    have fk2 := fpOk_step fk' pk.2.1
    try dsimp only
    have hsz : kA.size ≤ us.length := by
      have h1 := vk.length
      have h2 := rk.length
      have h3 : kA.toList.length = kA.size := Array.length_toList
      omega
    obtain ⟨c2, hc2⟩ : ∃ c2, (s2.heap.update kS (Obj.mapSeq (·.push u2))).get? kS = some (seqObj "list" (kA.push u2) c2) := ⟨_, get?_update_seq pk.1 (·.push u2)⟩
    refine wpAny_bind (listUpdate_at pk.1 rfl ?_ (by omega) (Nat.le_trans (Nat.le_of_eq (Array.size_push ..)) (by omega)))
    have I4 : Inv X pins σ H2 { s2 with heap := s2.heap.update kS (Obj.mapSeq (·.push u2)) } := I3.turned (t' := s2.toks) (it := kS) (fun b o hb e => (Heap.get?_update_ne _ _ _ _ hb).trans e) fk2.1 fk2.2.1 fk2.2.2.2.1 fk2.2.2.2.2.1 fk2.2.2.2.2.2
    refine wpAny_pure ⟨rfl, H2, G2, st1, kA.push u2, c2, kws ++ [v2], kds ++ [kd], r, I4, (Heap.get?_update_ne _ _ _ _ hka.symm).trans pa.1, hc2, fa2, fk2, ex.trans ex2, R2, ?_, ?_, by rw [List.length_append, lk]; rfl, by rw [ek, List.append_assoc]; rfl, hk2⟩
    · rw [Array.toList_push]
      exact vk.append (.cons r2 .nil)
    · exact RVs.append (rk.mono ex2.p) (.cons q2 .nil)
  case done =>
    rintro s' ⟨H', G', st', kA, e, kws, kds, rest, I', na', nk', fa', fk', ex, R', vk, rk, lk, ek, hk'⟩
    have hrest : rest = [] ∧ st' = st2 := by
      have e0 : ds.drop (0 + us.length) = [] := List.drop_eq_nil_of_le (by omega)
      rw [e0] at hk'
      cases hk'
      exact ⟨rfl, rfl⟩
    obtain ⟨rfl, rfl⟩ := hrest
    rw [List.append_nil] at ek
    subst ek
    try dsimp only
    refine wpAny_bind (listItems_at nk' rfl ?_)
    have lk2 := vk.length
    have lk3 := rk.length
    have rx' : RVs T X.K G' H' xs ds := rx.mono ex.p
    obtain ⟨Z, e1', e2', e3', e4', e5', e6'⟩ := quads (kvs := kA.toList) (kws := kws) (kds := ks) (ivs := us) (iws := xs) (ids := ds) (by omega) (by omega) (by omega) (by omega) (by omega)
    obtain ⟨L, l1, l2, l3, hL⟩ := trips rk vk
    have SV : SrtV s'.heap kk kA.toList := by
      have := srtV_trip (n := kk) I'.hok hL (by rw [l3]; exact ok)
      rw [l1] at this
      exact this
    have zk : ∀ z ∈ Z, RelV z.kw z.kv ∧ RV T X.K G' H' z.kw z.kd ∧ RelV z.iw z.iv ∧ RV T X.K G' H' z.iw z.id := fun z hz => by
      obtain ⟨i, hi⟩ := List.getElem?_of_mem hz
      have g1 : kA.toList[i]? = some z.kv := by rw [← e1', List.getElem?_map, hi]; rfl
      have g2 : kws[i]? = some z.kw := by rw [← e2', List.getElem?_map, hi]; rfl
      have g3 : ks[i]? = some z.kd := by rw [← e3', List.getElem?_map, hi]; rfl
      have g4 : us[i]? = some z.iv := by rw [← e4', List.getElem?_map, hi]; rfl
      have g5 : xs[i]? = some z.iw := by rw [← e5', List.getElem?_map, hi]; rfl
      have g6 : ds[i]? = some z.id := by rw [← e6', List.getElem?_map, hi]; rfl
      obtain ⟨u1, a1, a2⟩ := L2.paired_get vk g2
      rw [g1] at a1; cases a1
      obtain ⟨u2, b1, b2⟩ := L2.paired_get rv g5
      rw [g4] at b1; cases b1
      obtain ⟨w1, c1, c2⟩ := rk.get g3
      rw [g2] at c1; cases c1
      obtain ⟨w2, d1, d2⟩ := rx'.get g6
      rw [g5] at d1; cases d1
      exact ⟨a2, c2, b2, d2⟩
    obtain ⟨ok1, _, _⟩ := okSrt_of ok
    have key : ∀ z ∈ Z, kval s'.heap kk z.kv = skey kk z.kd := fun z hz => by
      obtain ⟨z1, z2, _, _⟩ := zk z hz
      refine kval_rv I'.hok z1 z2 ?_
      by_cases hn : kk = 0
      · exact .inl hn
      · refine .inr fun e => ?_
        have := ok1 z.kd (by rw [← e3']; exact List.mem_map.mpr ⟨z, hz, rfl⟩)
        rw [e] at this
        simp at this
        omega
    have ekA : kA = kA.toList.toArray := by simp
    rw [ekA] at nk' ⊢
    refine key_end (ltv := ltv s'.heap kk) (ltv_swo _ _) nk' na' hka (by omega) hz (fun h2 => ?_) fun out hs hb g1 h' hg1 hg2 k2 => ?_
    · exact sortable_v (a := kS) SV h2 (fun o e => by rw [nk'] at e; cases e; exact fun z => absurd (Value.type.inj z) (by decide)) s'.heap fun _ _ _ e => e
    · have O3 : Swo (fun x y : Qd => ltv s'.heap kk x.kv y.kv) := swo_by _
      obtain ⟨so, sb⟩ := srtL_ok O3 Z
      have ezip : kA.toList.zip us = Z.map fun z => (z.kv, z.iv) := by
        rw [← e1', ← e4']
        exact (List.zip_map' ..)
      have m1 : Srtd (lt2 (ltv s'.heap kk)) ((srtL (fun x y : Qd => ltv s'.heap kk x.kv y.kv) Z).map fun z => (z.kv, z.iv)) := srtd_map so
      have m2 : Stb (lt2 (ltv s'.heap kk)) ((srtL (fun x y : Qd => ltv s'.heap kk x.kv y.kv) Z).map fun z => (z.kv, z.iv)) (Z.map fun z => (z.kv, z.iv)) := Stb.map (swo2 (ltv_swo s'.heap kk)) (fun z : Qd => (z.kv, z.iv)) sb
      rw [ezip] at hb
      have eo := stb_uniq (swo2 (ltv_swo s'.heap kk)) hs m1 (hb.trans ⟨m2.perm.symm, fun x => (m2.cls x).symm⟩)
      have ed : (srtL (fun a b => ltS kk a.1 b.1) (ks.zip ds)).map (·.2) = (srtL (fun x y : Qd => ltv s'.heap kk x.kv y.kv) Z).map (·.id) := by
        have ez2 : ks.zip ds = Z.map fun z => (z.kd, z.id) := by
          rw [← e3', ← e6']
          exact (List.zip_map' ..)
        rw [ez2, srtL_map (fun z : Qd => (z.kd, z.id)) (fun a b => ltS kk a.1 b.1) Z, List.map_map]
        have : srtL (fun x y : Qd => ltS kk x.kd y.kd) Z = srtL (fun x y : Qd => ltv s'.heap kk x.kv y.kv) Z := srtL_cg fun x hx y hy => by
          unfold ltv ltS
          rw [key x hx, key y hy]
        rw [this]
        rfl
      have hZ' : ∀ z ∈ srtL (fun x y : Qd => ltv s'.heap kk x.kv y.kv) Z, RelV z.iw z.iv ∧ RV T X.K G' H' z.iw z.id := fun z hz => by
        obtain ⟨_, _, a, b⟩ := zk z (sb.perm.mem_iff.mp hz)
        exact ⟨a, b⟩
      generalize hZd : srtL (fun x y : Qd => ltv s'.heap kk x.kv y.kv) Z = Z' at *
      have ev : out.map (·.2) = Z'.map (·.iv) := by rw [eo, List.map_map]; rfl
      obtain ⟨c, hc⟩ := k2
      have vI : Vals (Z'.map (·.iw)) (out.map (·.2)) := by
        rw [ev]
        exact vals_maps (fun z : Qd => z.iw) (fun z => z.iv) Z' fun z hz => (hZ' z hz).1
      have rI : RVs T X.K G' H' (Z'.map (·.iw)) (Z'.map (·.id)) := by
        have go : ∀ l : List Qd, (∀ z ∈ l, RV T X.K G' H' z.iw z.id) → RVs T X.K G' H' (l.map (·.iw)) (l.map (·.id)) := by
          intro l
          induction l with
          | nil => exact fun _ => .nil
          | cons z l ih => exact fun h => .cons (h z (List.mem_cons_self ..)) (ih fun y hy => h y (List.mem_cons_of_mem _ hy))
        exact go Z' fun z hz => (hZ' z hz).2
      have hlen : (Z'.map (·.iw)).length ≤ sizeLine := by
        rw [List.length_map, sb.perm.length_eq]
        have := congrArg List.length e4'
        rw [List.length_map] at this
        rw [this]; exact hz
      have I5 : Inv X pins σ (upd H' a (.lst (Z'.map (·.iw)))) { s' with heap := h' } := by
        have J1 : Inv X pins σ H' { s' with heap := g1 } := I'.turned (t' := s'.toks) (it := kS) hg1 fk'.1 fk'.2.1 fk'.2.2.2.1 fk'.2.2.2.2.1 fk'.2.2.2.2.2
        exact J1.take (t' := s'.toks) hg2 fa' ⟨hlen, out.map (·.2), c, vI, hc⟩
      exact h G' H' (Z'.map (·.iw)) _ ex R' (by rw [ed]; exact rI) I5 fa'.1
end
end BB

namespace BB
open PySem PySem.Spec PyProof.Rows L2 SrtO
section
variable {X : Cx} {T : Tab} {PG : Prog} {k : Nat}
/-- sorted(xs, key=f) -/
def rSrtK (T : Tab) (K : PySem.W.Frag) (PG : Prog) (k kk n : Nat) : List V → List V → Hp → VK → Prop := fun vs zs H Q => ∃ (a : Addr) (xs : List V) (G : Gh) (ds ks : List D) (st st2 : Sto), vs = [.ref a] ∧ zs = [.ref (T.f n)] ∧ SqL K H a xs ∧ RVs T K G H xs ds ∧ RelC T K G st H ∧
  keysOf (cal PG k) n ds st = some (ks, st2) ∧ okSrt kk ks = true ∧ ∀ G' H' ys p, Ext G H G' H' → RelC T K G' st2 H' → RVs T K G' H' ys ((srtL (fun a b => ltS kk a.1 b.1) (ks.zip ds)).map (·.2)) → H' p = none → Q (.ref p) (upd H' p (.lst ys))
theorem cr_srtk {n kk : Nat} (F : KeyFn X PG T k n) (hr : Room (2 * k + 2) X.A) : CallRK X (.builtin "sorted") [Str.ofString "key"] (rSrtK T X.K PG k kk n) := by
  intro pins s σ H xs zs us ws Q I r rz h
  obtain ⟨a, vs, G, ds, ks, st, st2, rfl, rfl, hs, rx, R, hk, ok, q⟩ := h
  obtain ⟨its, rv, hl, hz⟩ := I.list hs
  rw [Vals.ref1 r, Vals.ref1 rz]
  have hzz : its.length ≤ sizeLine := by rw [← rv.length]; exact hz
  show wpAny _ X.A (call (.builtin "sorted") [.ref a] [(Str.ofString "key", .ref (T.f n))]) _ _ s
  refine call_function_entry_kw kind_sorted plain_sorted entry_sorted (ksk_s1 _ _) ?_
  unfold Builtin.«sorted»
  refine wpAny_bind (m := checkCount "sorted" 1 1 _) (wpAny_pure ?_)
  refine wpAny_bind (collect_list hl.isList ?_ hzz)
  refine wpAny_bind (wpAny_newList ?_ hzz)
  have hsz : ((s.heap.push (seqObj "list" #[] 0)).update s.heap.objs.size (Obj.mapSeq (· ++ its.toArray))).objs.size = s.heap.objs.size + 1 := by
    rw [Heap.size_update, size_push']
  have hoL : (((s.heap.push (seqObj "list" #[] 0)).update s.heap.objs.size (Obj.mapSeq (· ++ its.toArray))).push (seqObj "list" its.toArray 0)).get? (s.heap.objs.size + 1) = some (seqObj "list" its.toArray 0) := by
    rw [← hsz]; exact Heap.get?_push_size _ rfl
  have keep : ∀ b o, s.heap.get? b = some o → b ≠ s.heap.objs.size + 1 ∧ (((s.heap.push (seqObj "list" #[] 0)).update s.heap.objs.size (Obj.mapSeq (· ++ its.toArray))).push (seqObj "list" its.toArray 0)).get? b = some o := fun b o q => by
    have hlt : b < s.heap.objs.size := Heap.lt_size q
    refine ⟨Nat.ne_of_lt (Nat.lt_succ_of_lt hlt), Heap.get?_push_of_some _ ?_⟩
    rw [Heap.get?_update_ne _ _ _ _ (Nat.ne_of_lt hlt)]
    exact Heap.get?_push_of_some _ q
  have hszB : (((s.heap.push (seqObj "list" #[] 0)).update s.heap.objs.size (Obj.mapSeq (· ++ its.toArray))).push (seqObj "list" its.toArray 0)).objs.size = s.heap.objs.size + 2 := by
    rw [size_push', hsz]
  show wpAny _ _ _ _ _ { s with heap := ((s.heap.push (seqObj "list" #[] 0)).update s.heap.objs.size (Obj.mapSeq (· ++ its.toArray))).push (seqObj "list" its.toArray 0) }
  rw [hsz]
  generalize ((s.heap.push (seqObj "list" #[] 0)).update s.heap.objs.size (Obj.mapSeq (· ++ its.toArray))).push (seqObj "list" its.toArray 0) = hB at hoL keep hszB ⊢
  refine wpAny_bind (wpAny_holding (wpAny_call_entry_kw slot_list_sort ⟨_, hoL, rfl⟩ entry_list_sort ?_ (ksk_l1 _ _)))
  rw [ksk_t1]
  obtain ⟨e1, ho1⟩ : ∃ e1, (hB.update (s.heap.objs.size + 1) (Obj.mapSeq fun _ => (#[] : Array Value))).get? (s.heap.objs.size + 1) = some (seqObj "list" #[] e1) := ⟨_, get?_update_seq hoL fun _ => #[]⟩
  unfold ksk_tree
  refine wpAny_bind (listItems_at hoL rfl ?_)
  refine wpAny_bind (listUpdate_at hoL rfl ?_ (by rw [List.size_toArray]; exact hzz) (Nat.zero_le _))
  refine wpAny_bind (seqEpoch_at ho1 rfl ?_)
  refine wpAny_bind (wpAny_newTuple ?_ (by show its.length ≤ _; exact hzz))
  refine wpAny_bind (wpAny_newList ?_ (Nat.zero_le _))
  refine wpAny_holding ?_
  have hkS : ((hB.update (s.heap.objs.size + 1) (Obj.mapSeq fun _ => (#[] : Array Value))).push (seqObj "tuple" its.toArray 0)).objs.size = s.heap.objs.size + 3 := by rw [size_push', Heap.size_update, hszB]
  have nk : (((hB.update (s.heap.objs.size + 1) (Obj.mapSeq fun _ => (#[] : Array Value))).push (seqObj "tuple" its.toArray 0)).push (seqObj "list" #[] 0)).get? (s.heap.objs.size + 3) = some (seqObj "list" #[] 0) := by
    rw [← hkS]; exact Heap.get?_push_size _ rfl
  have na : (((hB.update (s.heap.objs.size + 1) (Obj.mapSeq fun _ => (#[] : Array Value))).push (seqObj "tuple" its.toArray 0)).push (seqObj "list" #[] 0)).get? (s.heap.objs.size + 1) = some (seqObj "list" #[] e1) := Heap.get?_push_of_some _ (Heap.get?_push_of_some _ ho1)
  have k2 : ∀ b o, s.heap.get? b = some o → (((hB.update (s.heap.objs.size + 1) (Obj.mapSeq fun _ => (#[] : Array Value))).push (seqObj "tuple" its.toArray 0)).push (seqObj "list" #[] 0)).get? b = some o := fun b o q => by
    refine Heap.get?_push_of_some _ (Heap.get?_push_of_some _ ?_)
    rw [Heap.get?_update_ne _ _ _ _ (keep b o q).1]
    exact (keep b o q).2
  show wpAny _ X.A.in1.in1 (ksk_rest (s.heap.objs.size + 1) (.ref (T.f n)) false its.toArray e1 (.ref ((hB.update (s.heap.objs.size + 1) (Obj.mapSeq fun _ => (#[] : Array Value))).push (seqObj "tuple" its.toArray 0)).objs.size)) _ _ { s with heap := (((hB.update (s.heap.objs.size + 1) (Obj.mapSeq fun _ => (#[] : Array Value))).push (seqObj "tuple" its.toArray 0)).push (seqObj "list" #[] 0)) }
  rw [hkS]
  have I2 : Inv X pins σ H { s with heap := (((hB.update (s.heap.objs.size + 1) (Obj.mapSeq fun _ => (#[] : Array Value))).push (seqObj "tuple" its.toArray 0)).push (seqObj "list" #[] 0)) } := I.kept (t' := s.toks) k2
  have f1 : ∀ i, FpOk X pins H (s.heap.objs.size + i) := fun i => I.fpOk (Nat.le_add_right _ _) (I.hok.fresh (Nat.le_add_right _ _))
  refine key_rest (A := X.A.in1.in1) (kk := kk) F ⟨hr.hd, by have := hr.dp; show X.A.depth + 3 * (2 * k + 1) + 5 < _; omega, by have := hr.un; show X.A.units + 1 + 1 + 16 * (2 * k + 1) + 200 < _; omega⟩ (fun s H e => e.in1.in1) I2 na nk (f1 1) (f1 3) (Nat.ne_of_gt (Nat.add_lt_add_left (by decide : 1 < 3) s.heap.objs.size)) rv rx R hk ok hzz fun G' H' ys s' ex R' ry I5 hn => ⟨_, rfl, wpAny_pure ⟨_, rfl, .ref _, _, I5, rfl, q G' H' ys _ ex R' ry hn⟩⟩
variable {B : Bs} {W : WX}
theorem sE_srtk {kk n : Nat} {x : Str} {e : Expr} {c : S → Oc R} {pk pv px p : Pos} (F : KeyFn X PG T k n) (hr : Room (2 * k + 2) X.A) (hg : Gl X "sorted") (hm : X.mg "sorted" = none) (hgx : Gl X x) (hmx : X.mg x = some (.ref (T.f n))) (hdb : (x == ("__debug__" : Str)) = false)
    (he : PE X e (tE T X.K B W c)) (hst : starEach [e] X.env = (false, eval e X.env) :: starEach [] X.env) :
    PE X (.Call (.Name "sorted" px) [e] [⟨some "key", .Name x pv, pk⟩] p) (tE T X.K B W fun s => (c s).bind fun r s1 => srtkR (cal PG k) kk n (view s1 r) s1) := by
  have ha : PA X [e] (tCons (tE T X.K B W c) tNil) := pa_cons he pa_nil hst
  have hk : PK X [⟨some "key", .Name x pv, pk⟩] (tCons (tC (.ref (T.f n))) tNil) := pk_cons (pe_glob (v := .ref (T.f n)) hgx hmx rfl hdb) pk_nil
  refine pe_imp (pe_callBK (cr_srtk (T := T) (kk := kk) F hr) hg hm (by decide +kernel) ha hk (by decide) (by decide) (by rw [hst]; rfl) (by rw [hst]; rfl) rfl rfl rfl) fun σ H Q ⟨G, s, hR, q⟩ => ?_
  refine ⟨G, s, hR, at_bind q (.refl _ _ _ _) fun r s1 G1 H1 v st z1 R1 p1 q1 => ?_⟩
  show rSrtK T X.K PG k kk n [v] [.ref (T.f n)] H1 Q
  unfold srtkR at q1
  split at q1
  · rename_i l hv
    split at q1
    · rename_i ks st2 hks
      split at q1
      · rename_i ok
        cases view_ok R1 p1 hv with
        | ls e rv => exact ⟨_, _, G1, l, ks, s1.st, st2, rfl, rfl, .inl e, rv, R1.c, hks, ok, fun G' H' ys p ex rc ry hp => at_new q1 (z1.trans (.called ex)) (R1.called ex rc) (.lst hp ry)⟩
      · exact q1.elim
    · exact q1.elim
  · exact q1.elim
end
end BB

namespace BB
open PySem PySem.Spec PyProof.Rows L2
/-! dict(l) of a list of pairs -/
section
variable {T : Tab} {B : Bs} {W : WX} {X : Cx}
theorem pairD_of {K : PySem.W.Frag} {G : Gh} {H : Hp} {d a b : D} {v : V} (r : RV T K G H v d) (e : pairD d = some (a, b)) : ∃ (p : Addr) (x y : V), v = .ref p ∧ SqT K H p [x, y] ∧ RV T K G H x a ∧ RV T K G H y b := by
  unfold pairD at e
  split at e
  · injection e with e; injection e with e1 e2; subst e1; subst e2
    cases r with | tup q r => cases r with | cons r1 r => cases r with | cons r2 r => cases r; exact ⟨_, _, _, rfl, .inl (.inl q), r1, r2⟩
  · injection e with e; injection e with e1 e2; subst e1; subst e2
    cases r with | ktup q r => cases r with | cons r1 r => cases r with | cons r2 r => cases r; exact ⟨_, _, _, rfl, q H, r1, r2⟩
  · cases e
theorem prs_of {K : PySem.W.Frag} {G : Gh} {H : Hp} : ∀ {l : List D} {vs : List V} {q acc m : List (D × D)} {kvs : List (Key × V)}, RVs T K G H vs l → pairsD l = some q → dputs acc q = some m → RKs T K G H kvs acc →
    ∃ (ps : List Addr) (more : List (Key × V)), vs = ps.map V.ref ∧ Paired (fun p kv => SqT K H p [kV kv.1, kv.2]) ps more ∧ RKs T K G H (mergeK kvs more) m
  | [], _, _, acc, m, kvs, .nil, e, e2, h => by
    injection e with e; subst e; injection e2 with e2; subst e2
    exact ⟨[], [], rfl, .nil, h⟩
  | d :: ds, _, _, acc, m, kvs, .cons r t, e, e2, h => by
    unfold pairsD at e
    split at e
    · rename_i p ps h1 h2
      obtain ⟨kd, vd⟩ := p
      injection e with e; subst e
      unfold dputs at e2
      split at e2
      · rename_i k hk
        obtain ⟨a, x, y, rfl, sq, rx, ry⟩ := pairD_of r h1
        obtain ⟨qs, more, m1, m2, m3⟩ := prs_of t h2 e2 (h.put (dkey_of hk) ry)
        refine ⟨a :: qs, (k, y) :: more, by rw [List.map_cons, m1], .cons ?_ m2, m3⟩
        rw [← key_of (dkey_of hk) rx]
        exact sq
      · cases e2
    · cases e
theorem sE_dctp {e : Expr} {c : S → Oc R} {px p : Pos} (hc : X.calm = true) (hg : Gl X "dict") (hm : X.mg "dict" = none) (he : PE X e (tE T X.K B W c)) (hst : starEach [e] X.env = (false, eval e X.env) :: starEach [] X.env) :
    PE X (.Call (.Name "dict" px) [e] [] p) (tE T X.K B W fun s => (c s).bind fun r s1 => opt (dctpV (view s1 r)) s1) := by
  refine pe_imp (pe_callTy (call_dictP hc) hg hm (by decide +kernel) (pa_cons he pa_nil hst) (by decide) (by decide) hst rfl) fun σ H Q ⟨G, s, hR, q⟩ => ?_
  refine ⟨G, s, hR, at_bind q (.refl _ _ _ _) fun r s1 G1 H1 v st z1 R1 p1 q1 => ?_⟩
  obtain ⟨w, hw, q2⟩ := opt_at q1
  unfold dctpV at hw
  split at hw
  · rename_i l hv
    split at hw
    · rename_i qs hq
      cases hd : dputs [] qs with
      | none => rw [hd] at hw; cases hw
      | some m =>
        rw [hd] at hw
        injection hw with hw; subst hw
        cases view_ok R1 p1 hv with
        | ls e1 rv =>
          obtain ⟨ps, more, rfl, pr, mk⟩ := prs_of rv hq hd .nil
          exact ⟨_, ps, more, rfl, .inl e1, pr, fun a ha => at_new q2 z1 R1 (.dK ha mk)⟩
    · cases hw
  · cases hw
end
end BB

namespace BB
open PySem PySem.Spec PyProof.Rows L2
/-! dict(l) of a list of pairs whose keys are tuples -/
section
variable {prog : Program} {w : World} {A : Around} {E : Value → Shared → Prop}
theorem tk_keep {h h' : Heap} {k : List Key} {a : Addr} (x : (tupleKind (mixKind prog w)).is h k a) (e : ∀ o, h.get? a = some o → h'.get? a = some o) : (tupleKind (mixKind prog w)).is h' k a := by
  obtain ⟨o, its, n, h1, h2, h3, h4⟩ := x
  exact ⟨o, its, n, e o h1, h2, h3, h4⟩
abbrev KAV := List Key × Addr × Value
theorem doh_keep {h h' : Heap} {d : Addr} {xs : List KAV} (m : h.DictOfH (tupleKind (mixKind prog w)) d xs) (e : ∀ o, h.get? d = some o → h'.get? d = some o) (ek : ∀ x ∈ xs, ∀ o, h.get? x.2.1 = some o → h'.get? x.2.1 = some o) : h'.DictOfH (tupleKind (mixKind prog w)) d xs := by
  obtain ⟨o, es, ep, h1, h2, h3, h4, h5, h6⟩ := m
  exact ⟨o, es, ep, e o h1, h2, h3, h4, fun x hx => tk_keep (h5 x hx) (ek x hx), h6⟩
def mergedH (acc : List KAV) (rest : List KAV) : List KAV := rest.foldl (fun m q => storedH m q.1 q.2.1 q.2.2) acc
theorem storedH_mem {xs : List KAV} {k : List Key} {a : Addr} {v : Value} {x : KAV} (h : x ∈ storedH xs k a v) : x.2.1 = a ∨ ∃ y ∈ xs, x.2.1 = y.2.1 := by
  unfold storedH at h
  split at h
  · obtain ⟨y, hy, rfl⟩ := List.mem_map.mp h
    refine .inr ⟨y, hy, ?_⟩
    unfold putAt
    split <;> rfl
  · rcases List.mem_append.mp h with h | h
    · exact .inr ⟨x, h, rfl⟩
    · rw [List.mem_singleton.mp h]; exact .inl rfl
theorem storedH_len (xs : List KAV) (k : List Key) (a : Addr) (v : Value) : (storedH xs k a v).length ≤ xs.length + 1 := by
  unfold storedH
  split
  · rw [List.length_map]; omega
  · rw [List.length_append]; exact Nat.le_refl _
/-- the walk over the pairs -/
theorem upd_loopT {R : Result → Shared → Prop} {S I l : Addr} {items : Array Value} {res : Value} (hu : A.in1.units < cLine) (hh : A.handled = none) (hlI : l ≠ I) (hSI : S ≠ I) (hSl : S ≠ l) :
    ∀ (rest : List KAV) (i : Nat) (acc : List KAV) (ix : Int) (t : Tok) (s : Shared), items.size = i + rest.length → acc.length + rest.length ≤ sizeLine →
      (∀ (j : Nat) (q : KAV), rest[j]? = some q → ∃ b : Addr, items[i + j]? = some (.ref b) ∧ b ≠ S ∧ b ≠ I ∧ IsTup s.heap b #[.ref q.2.1, q.2.2] ∧ q.2.1 ≠ S ∧ q.2.1 ≠ I ∧ (tupleKind (mixKind prog w)).is s.heap q.1 q.2.1) →
      (∀ x ∈ acc, x.2.1 ≠ S ∧ x.2.1 ≠ I) →
      s.heap.IsListIter I l i → s.heap.IsList l items → s.heap.DictOfH (tupleKind (mixKind prog w)) S acc →
      (∀ h' tk, h'.DictOfH (tupleKind (mixKind prog w)) S (mergedH acc rest) → (∀ b o, b ≠ S → b ≠ I → s.heap.get? b = some o → h'.get? b = some o) → R (.ok (.ret res)) { s with heap := h', toks := tk }) →
      codeAny (model prog w) A (.builtin "dict.update.loop" ⟨[.ref S, .ref I, .int ix t, res], []⟩) R s
  | [], i, acc, ix, t, s, hsz, hln, ht, hacc, hit, hl, hm, hR => by
    refine codeAny_builtin ud_entry ?_
    rw [Around.under_plainId ud_plain _]
    show wpAny _ A.in1 (pyNext (.ref I) >>= _) _ _ s
    refine wpAny_bind (wpAny_pyNext_list_end (A := A.in1) hh hit hl (by first | exact Array.getElem?_eq_none (Nat.le_of_eq hsz) | (simp at hsz; simp; omega)) fun h' he => ?_)
    show wpAny _ A.in1 (Builtin.Dict.addKeywords S [] >>= _) _ _ _
    refine wpAny_bind (wpAny_pure (wpAny_pure ?_))
    exact hR h' s.toks (doh_keep hm (fun o e => he S o hSI e) fun x hx o e => he _ o (hacc x hx).2 e) fun b o _ hb e => he b o hb e
  | q :: rest, i, acc, ix, t, s, hsz, hln, ht, hacc, hit, hl, hm, hR => by
    obtain ⟨b, hb, hbS, hbI, htup, hqS, hqI, hk⟩ := ht 0 q rfl
    rw [List.length_cons] at hsz hln
    refine codeAny_builtin ud_entry ?_
    rw [Around.under_plainId ud_plain _]
    show wpAny _ A.in1 (pyNext (.ref I) >>= _) _ _ s
    refine wpAny_bind (wpAny_pyNext_list_item (x := .ref b) hit hl (by simpa using hb) fun h1 hit1 hs1 => ?_)
    have ht1 : IsTup h1 b #[.ref q.2.1, q.2.2] := htup.extBut hs1.extBut hbI
    have hl1 : h1.IsList l items := hl.extBut hs1.extBut hlI
    have hm1 : h1.DictOfH (tupleKind (mixKind prog w)) S acc := doh_keep hm (fun o e => hs1.extBut S o hSI e) fun x hx o e => hs1.extBut _ o (hacc x hx).2 e
    have hk1 : (tupleKind (mixKind prog w)).is h1 q.1 q.2.1 := tk_keep hk fun o e => hs1.extBut _ o hqI e
    obtain ⟨o, ho, hc, n, hd⟩ := id ht1
    show wpAny _ A.in1 (holding [Value.ref b] _ >>= _) _ _ _
    refine wpAny_bind (wpAny_holding ?_)
    refine wpAny_bind (wpAny_tryCatch ?_)
    unfold Builtin.Dict.pairItems
    refine wpAny_bind (wpAny_typeOf (T := "tuple") ⟨o, ho, hc⟩ ?_)
    rw [if_pos (by first | decide | rfl | simp)]
    refine wpAny_bind (wpAny_seqItems ho hd (wpAny_pure ?_))
    show wpAny _ A.in1 (holding [Value.ref q.2.1, q.2.2] (dictSet S (.ref q.2.1) q.2.2)) _ _ _
    refine wpAny_holding (wpAny_dictSet_heap (knd := tupleKind (mixKind prog w)) (k := q.1) hu hk1 hm1 (fun h2 hm2 hs2 => ?_) (by omega))
    refine wpAny_pure ⟨plainId_quiet ud_plain _, upd_loopT (items := items) hu hh hlI hSI hSl rest (i + 1) (storedH acc q.1 q.2.1 q.2.2) (ix + 1) 0 _ (show items.size = i + 1 + rest.length by omega) ?_ (fun j q' e => ?_) (fun x hx => ?_) ?_ ?_ hm2 fun h' tk hd' k => ?_⟩
    · have z := storedH_len acc q.1 q.2.1 q.2.2
      omega
    · obtain ⟨b', hb', hbS', hbI', htup', hqS', hqI', hk'⟩ := ht (j + 1) q' (by simpa using e)
      refine ⟨b', ?_, hbS', hbI', (htup'.extBut hs1.extBut hbI').extBut hs2.extBut hbS', hqS', hqI', tk_keep (tk_keep hk' fun o e => hs1.extBut _ o hqI' e) fun o e => hs2.extBut _ o hqS' e⟩
      rw [show i + 1 + j = i + (j + 1) by omega]
      exact hb'
    · rcases storedH_mem hx with e | ⟨y, hy, e⟩
      · rw [e]; exact ⟨hqS, hqI⟩
      · rw [e]; exact hacc y hy
    · exact hit1.at fun o' e => hs2.extBut I o' (Ne.symm hSI) e
    · exact hl1.extBut hs2.extBut (Ne.symm hSl)
    · exact hR h' tk hd' fun c oc h3 h4 e => k c oc h3 h4 (hs2.extBut c oc h3 (hs1.extBut c oc h4 e))
/-- dict(l) of a list of pairs -/
theorem call_dict_pairsT {s : Shared} {l : Addr} {ol : Obj} {items : Array Value} {n : Nat} {prs : List KAV} {Q : Value → Shared → Prop} (hu : A.in1.in1.units < cLine) (hh : A.handled = none) (hl : s.heap.get? l = some ol) (hc : ol.cls = .type "list") (hd : ol.dict = none)
    (hdat : ol.data = .seq items n) (hsz : items.size = prs.length) (hln : prs.length ≤ sizeLine)
    (ht : ∀ (j : Nat) (q : KAV), prs[j]? = some q → ∃ b : Addr, items[j]? = some (.ref b) ∧ IsTup s.heap b #[.ref q.2.1, q.2.2] ∧ (tupleKind (mixKind prog w)).is s.heap q.1 q.2.1)
    (h : ∀ h' tk, h'.DictOfH (tupleKind (mixKind prog w)) s.heap.objs.size (mergedH [] prs) → (∀ b o, s.heap.get? b = some o → h'.get? b = some o) → Q (.ref s.heap.objs.size) { s with heap := h', toks := tk }) :
    wpAny (model prog w) A (call (.type "dict") [.ref l]) Q E s := by
  refine callType_codes (Q₁ := fun obj s₁ => obj = .ref s.heap.objs.size ∧ s₁ = { s with heap := s.heap.push { cls := .type "dict", data := .dict #[] } }) PySem.F.kt_called_dict (PySem.F.kt_typeCall_dict_1 _) PySem.F.entry_dict_init (kt_code_dict_new _ ⟨rfl, rfl⟩) ?_
  rintro obj s₁ ⟨rfl, rfl⟩
  have hnew : (s.heap.push { cls := .type "dict", data := .dict #[] }).DictOfH (tupleKind (mixKind prog w)) s.heap.objs.size [] := Heap.DictOfH.new s.heap
  have k0 : ∀ b o, s.heap.get? b = some o → (s.heap.push { cls := .type "dict", data := .dict #[] }).get? b = some o := fun b o e => Heap.get?_push_of_some _ e
  refine ⟨hnew.typeIs, PySem.F.args_dict_init_2 _ _, ?_⟩
  unfold Builtin.«dict.__init__»
  refine wpAny_bind ?_
  unfold Builtin.Dict.selfAndRest
  refine wpAny_bind (wpAny_notOrdered_dict hnew.typeIs ?_)
  show wpAny _ _ (pure (s.heap.objs.size, [Value.ref l])) _ _ _
  refine wpAny_pure ?_
  show wpAny _ _ (Builtin.Dict.updateFrom "dict.__init__" s.heap.objs.size (.ref l) [] .none) _ _ _
  unfold Builtin.Dict.updateFrom
  refine wpAny_bind (wpAny_typeOf (T := "list") ⟨ol, k0 _ _ hl, hc⟩ ?_)
  rw [if_pos (by first | decide | rfl | simp)]
  refine wpAny_bind (miss_list (k0 _ _ hl) hc hdat hd hh fun h1 tk1 hk1 => ?_)
  rw [if_pos (show (none : Option Value).isNone = true from rfl)]
  refine wpAny_bind (wpAny_rule ?_)
  have hl1 : h1.IsList l items := ⟨ol, hk1 _ _ (k0 _ _ hl), hc, n, hdat⟩
  have hS1 : s.heap.objs.size < h1.objs.size := by
    have e : (s.heap.push { cls := .type "dict", data := .dict #[] }).get? s.heap.objs.size = some { cls := .type "dict", data := .dict #[] } := Heap.get?_push_size _ rfl
    exact Heap.lt_size (hk1 _ _ e)
  refine wpAny_bind (wpAny_pyIter_list hl1 ?_)
  have k2 : ∀ b o, h1.get? b = some o → (h1.push { cls := .type "list_iterator", data := .fields #[.ref l, .int 0 0] }).get? b = some o := fun b o e => Heap.get?_push_of_some _ e
  have hlt : l < s.heap.objs.size := Heap.lt_size hl
  have key := upd_loopT (prog := prog) (w := w) (A := A.in1) (R := wants (fun r s₂ => r = .none ∧ Q (.ref s.heap.objs.size) s₂) E) (S := s.heap.objs.size) (I := h1.objs.size) (l := l) (items := items) (res := Value.none) hu hh
    (Nat.ne_of_lt (Nat.lt_trans hlt hS1)) (Nat.ne_of_lt hS1) (Nat.ne_of_gt hlt) prs 0 [] 0 0
    { s with heap := h1.push { cls := .type "list_iterator", data := .fields #[.ref l, .int 0 0] }, toks := tk1 } (by rw [hsz, Nat.zero_add]) (by rw [List.length_nil, Nat.zero_add]; exact hln)
    (fun j q e => by
      obtain ⟨b, e1, e2, e3⟩ := ht j q e
      have hb : b < s.heap.objs.size := e2.lt
      have hq : q.2.1 < s.heap.objs.size := by
        obtain ⟨o, its, n, z, _⟩ := e3
        exact Heap.lt_size z
      exact ⟨b, by rw [Nat.zero_add]; exact e1, Nat.ne_of_lt hb, Nat.ne_of_lt (Nat.lt_trans hb hS1), e2.keeps fun c o z => k2 _ _ (hk1 _ _ (k0 _ _ z)), Nat.ne_of_lt hq, Nat.ne_of_lt (Nat.lt_trans hq hS1), tk_keep e3 fun o z => k2 _ _ (hk1 _ _ (k0 _ _ z))⟩)
    (fun _ h => nomatch h)
    ⟨_, Heap.get?_push_size _ rfl, rfl, rfl⟩ (hl1.at fun o e => k2 _ _ e) (doh_keep hnew (fun o e => k2 _ _ (hk1 _ _ e)) fun _ h => nomatch h)
    (fun h' tk hd' k => ⟨rfl, h h' tk hd' fun b o e => k b o (Nat.ne_of_lt (Heap.lt_size e)) (Nat.ne_of_lt (Nat.lt_trans (Heap.lt_size e) hS1)) (k2 _ _ (hk1 _ _ (k0 _ _ e)))⟩)
  first
    | exact wpAny_pure ⟨plainId_quiet ud_plain _, key⟩
    | exact wpAny_bind (wpAny_pure (wpAny_pure ⟨plainId_quiet ud_plain _, key⟩))
end
section
variable {X : Cx}
abbrev KVT := List Key × Addr × V
def mergeT (acc : List (List Key × V)) (more : List KVT) : List (List Key × V) := more.foldl (fun m q => putK m q.1 q.2.2) acc
theorem length_mergeT : ∀ (more : List KVT) (acc : List (List Key × V)), (mergeT acc more).length ≤ acc.length + more.length
  | [], acc => Nat.le_refl _
  | q :: r, acc => by
    have h1 := length_mergeT r (putK acc q.1 q.2.2)
    have h2 := length_putK acc q.1 q.2.2
    show (mergeT (putK acc q.1 q.2.2) r).length ≤ _
    rw [List.length_cons]
    omega
abbrev PTH (H : Hp) : List KVT → List KAV → Prop := Paired fun k q => k.1 = q.1 ∧ k.2.1 = q.2.1 ∧ H k.2.1 = some (.tup (k.1.map kV)) ∧ RelV k.2.2 q.2.2
theorem KT_merge {H : Hp} : ∀ {kvs : List KVT} {prs : List KAV} {acc : List (List Key × V)} {xs : List KAV}, PTH H kvs prs → KT H acc xs → KT H (mergeT acc kvs) (mergedH xs prs)
  | _, _, _, _, .nil, h => h
  | _, _, _, _, .cons (a := k) (b := q) r t, h => by
    obtain ⟨k1, k2, k3⟩ := k
    obtain ⟨q1, q2, q3⟩ := q
    obtain ⟨e1, e2, e3, e4⟩ := r
    dsimp only at e1 e2 e3 e4
    subst e1; subst e2
    show KT H (mergeT (putK _ k1 k3) _) (mergedH (storedH _ k1 k2 q3) _)
    exact KT_merge t (KT.put h _ e3 e4)
theorem pairsT_of {pins : List (Addr × Obj)} {σ : St} {H : Hp} {s : Shared} (I : Inv X pins σ H s) : ∀ {ps : List Addr} {kvs : List KVT}, Paired (fun p kv => SqT X.K H p [.ref kv.2.1, kv.2.2] ∧ H kv.2.1 = some (.tup (kv.1.map kV))) ps kvs →
    ∃ prs : List KAV, PTH H kvs prs ∧ prs.length = ps.length ∧ ∀ (j : Nat) (q : KAV), prs[j]? = some q → ∃ b : Addr, ps[j]? = some b ∧ IsTup s.heap b #[.ref q.2.1, q.2.2] ∧ (tupleKind (mixKind X.prog X.w)).is s.heap q.1 q.2.1
  | _, _, .nil => ⟨[], .nil, rfl, fun j q e => by simp at e⟩
  | _, _, .cons (a := p) (b := kv) h t => by
    obtain ⟨prs, r, hl, hp⟩ := pairsT_of I t
    obtain ⟨its, rv, ht, _⟩ := I.tuple h.1
    obtain ⟨u, y, ei, ru, ry⟩ := vals2 rv
    subst ei
    obtain rfl : u = Value.ref kv.2.1 := ru
    refine ⟨(kv.1, kv.2.1, y) :: prs, .cons ⟨rfl, rfl, h.2, ry⟩ r, by rw [List.length_cons, List.length_cons, hl], fun j q e => ?_⟩
    cases j with
    | zero =>
      have e' : (kv.1, kv.2.1, y) = q := Option.some.inj e
      subst e'
      exact ⟨p, rfl, ht, L2.key_of I.hok h.2⟩
    | succ j =>
      obtain ⟨b, e1, e2, e3⟩ := hp j q (by simpa using e)
      exact ⟨b, by simpa using e1, e2, e3⟩
theorem call_dictPT (hu : X.A.in1.in1.units < cLine) (hcalm : X.calm = true) : CallR X (.type "dict") (fun xs H Q => ∃ (a : Addr) (ps : List Addr) (kvs : List KVT), xs = [.ref a] ∧ SqL X.K H a (ps.map V.ref) ∧ Paired (fun p kv => SqT X.K H p [.ref kv.2.1, kv.2.2] ∧ H kv.2.1 = some (.tup (kv.1.map kV))) ps kvs ∧
    ∀ p, H p = none → Q (.ref p) (upd H p (.dT (mergeT [] kvs)))) := by
  intro pins s σ H xs us Q I r q
  obtain ⟨a, ps, kvs, ex, hq, hp, q⟩ := q
  subst ex
  obtain ⟨u, eu, rx⟩ := vals1 r
  subst eu
  cases rx
  obtain ⟨its, rv, pl, hz⟩ := I.list hq
  have ei := refs_at rv
  subst ei
  rw [List.length_map] at hz
  obtain ⟨prs, rel, hl, hpr⟩ := pairsT_of I hp
  obtain ⟨o, n, ho, hc, hd, hdat⟩ := pl
  refine call_dict_pairsT (prs := prs) hu (I.ok.hd hcalm) ho hc hd hdat (by simp [hl]) (by rw [hl]; exact hz) (fun j q' e => ?_) fun h' tk hd' k => ?_
  · obtain ⟨b, e1, e2, e3⟩ := hpr j q' e
    exact ⟨b, by simp [e1], e2, e3⟩
  · have hm : (s.heap.objs.size == sysModules) = false := beq_eq_false_iff_ne.mpr (Nat.ne_of_gt I.big)
    have hlen : (mergeT [] kvs).length ≤ sizeLine := by
      refine Nat.le_trans (length_mergeT kvs []) ?_
      rw [List.length_nil, Nat.zero_add, rel.length, hl]
      exact hz
    have fr := I.hok.fresh (Nat.le_refl s.heap.objs.size)
    have kt : KT (upd H s.heap.objs.size (.dT (mergeT [] kvs))) (mergeT [] kvs) (mergedH [] prs) := (KT_merge rel .nil).keeps fun b ys e => by
      rw [upd_ne (fun z => by rw [z, fr] at e; cases e)]
      exact e
    obtain ⟨o', es, ep, h1, h2, h3, h4, _, h6⟩ := hd'
    exact ⟨.ref s.heap.objs.size, upd H s.heap.objs.size (.dT (mergeT [] kvs)), I.laid (t' := tk) k (Nat.le_refl _) (show ObjOk X.prog X.w _ _ _ (.dT (mergeT [] kvs)) from ⟨hlen, hm, mergedH [] prs, kt, o', es, ep, h1, h2, h3, h4, h6⟩), rfl, q _ fr⟩
end
section
variable {T : Tab} {B : Bs} {W : WX} {X : Cx}
theorem prsT_of {K : PySem.W.Frag} {G : Gh} {H : Hp} : ∀ {l : List D} {vs : List V} {q acc m : List (D × D)} {kvs : List (List Key × V)}, RVs T K G H vs l → pairsD l = some q → dputsT acc q = some m → RTs T K G H kvs acc →
    ∃ (ps : List Addr) (more : List KVT), vs = ps.map V.ref ∧ Paired (fun p kv => SqT K H p [.ref kv.2.1, kv.2.2] ∧ H kv.2.1 = some (.tup (kv.1.map kV))) ps more ∧ RTs T K G H (mergeT kvs more) m
  | [], _, _, acc, m, kvs, .nil, e, e2, h => by
    injection e with e; subst e; injection e2 with e2; subst e2
    exact ⟨[], [], rfl, .nil, h⟩
  | d :: ds, _, _, acc, m, kvs, .cons r t, e, e2, h => by
    unfold pairsD at e
    split at e
    · rename_i p ps h1 h2
      obtain ⟨kd, vd⟩ := p
      injection e with e; subst e
      unfold dputsT at e2
      split at e2
      · rename_i k hk
        obtain ⟨a, x, y, rfl, sq, rx, ry⟩ := pairD_of r h1
        obtain ⟨c, rfl, ec⟩ := tkey_of hk rx
        obtain ⟨qs, more, m1, m2, m3⟩ := prsT_of t h2 e2 (h.put hk ry)
        exact ⟨a :: qs, (k, c, y) :: more, by rw [List.map_cons, m1], .cons ⟨sq, ec⟩ m2, m3⟩
      · cases e2
    · cases e
theorem sE_dctt {e : Expr} {c : S → Oc R} {px p : Pos} (hu : X.A.in1.in1.units < cLine) (hc : X.calm = true) (hg : Gl X "dict") (hm : X.mg "dict" = none) (he : PE X e (tE T X.K B W c)) (hst : starEach [e] X.env = (false, eval e X.env) :: starEach [] X.env) :
    PE X (.Call (.Name "dict" px) [e] [] p) (tE T X.K B W fun s => (c s).bind fun r s1 => opt (dcttV (view s1 r)) s1) := by
  refine pe_imp (pe_callTy (call_dictPT hu hc) hg hm (by decide +kernel) (pa_cons he pa_nil hst) (by decide) (by decide) hst rfl) fun σ H Q ⟨G, s, hR, q⟩ => ?_
  refine ⟨G, s, hR, at_bind q (.refl _ _ _ _) fun r s1 G1 H1 v st z1 R1 p1 q1 => ?_⟩
  obtain ⟨w, hw, q2⟩ := opt_at q1
  unfold dcttV at hw
  split at hw
  · rename_i l hv
    split at hw
    · rename_i qs hq
      cases hd : dputsT [] qs with
      | none => rw [hd] at hw; cases hw
      | some m =>
        rw [hd] at hw
        injection hw with hw; subst hw
        cases view_ok R1 p1 hv with
        | ls e1 rv =>
          obtain ⟨ps, more, rfl, pr, mk⟩ := prsT_of rv hq hd .nil
          exact ⟨_, ps, more, rfl, .inl e1, pr, fun a ha => at_new q2 z1 R1 (.dT ha mk)⟩
    · cases hw
  · cases hw
end
end BB

namespace BB
open PySem PySem.Spec PyProof.Rows L2
/-! len(set(l)), l a list of texts -/
theorem dstep_mem (a : List Str) (x y : Str) : y ∈ dstep a x ↔ y ∈ a ∨ y = x := by
  unfold dstep
  split
  · rename_i h
    exact ⟨.inl, fun e => e.elim id fun e => e ▸ h⟩
  · rw [List.mem_append, List.mem_singleton]
theorem dstep_len (a : List Str) (x : Str) : (dstep a x).length = if x ∈ a then a.length else a.length + 1 := by
  unfold dstep
  split <;> simp
theorem ddS_take (l : List Str) {i : Nat} (h : i < l.length) : ddS (l.take (i + 1)) = dstep (ddS (l.take i)) l[i] := by
  unfold ddS
  rw [List.take_add_one, List.getElem?_eq_getElem h, List.foldl_append]
  rfl
theorem foldl_dstep_le (l : List Str) : ∀ a : List Str, (l.foldl dstep a).length ≤ a.length + l.length := by
  induction l with
  | nil => exact fun a => Nat.le_refl _
  | cons x l ih =>
    intro a
    have := ih (dstep a x)
    have h2 := dstep_len a x
    rw [List.foldl_cons, List.length_cons]
    split at h2 <;> omega
theorem ddS_le (l : List Str) : (ddS l).length ≤ l.length := by
  have := foldl_dstep_le l []
  simpa [ddS] using this
theorem foldl_nodup (l : List Str) : ∀ a : List Str, (a ++ l).Nodup → l.foldl dstep a = a ++ l := by
  induction l with
  | nil => exact fun a _ => (List.append_nil a).symm
  | cons x l ih =>
    intro a nd
    have no : x ∉ a := fun m => by
      have := List.nodup_append.mp nd
      exact (this.2.2 x m x (List.mem_cons_self ..)) rfl
    have e : dstep a x = a ++ [x] := if_neg no
    rw [List.foldl_cons, e, ih (a ++ [x]) (by simpa using nd), List.append_assoc]
    rfl
theorem ddS_nodup {l : List Str} (nd : l.Nodup) : ddS l = l := foldl_nodup l [] (by simpa using nd)
section
variable {prog : Program} {w : World} {A : Around} {R : Result → Shared → Prop} {I : Addr} {fp wr : List Addr} {G : Array GenState → Array GenState → Prop} {n : Nat} {P : Nat → Value → Prop} {St : Nat → Shared → Prop}
/-- the set at S holds the texts of l -/
abbrev SetL (prog : Program) (w : World) (h : Heap) (S : Addr) (l : List Str) : Prop := h.SetOf (PySem.strKind prog w) S (fun k => decide (k ∈ l)) l.length
theorem SetL.at {h h' : Heap} {S : Addr} {l : List Str} (x : SetL prog w h S l) (k : ∀ o, h.get? S = some o → h'.get? S = some o) : SetL prog w h' S l := by
  obtain ⟨o, es, ep, t, ho, rest⟩ := x
  exact ⟨o, es, ep, t, k o ho, rest⟩
/-- the walk of set.update, any texts -/
theorem walk_texts (W : WalksS prog w A.in1 I fp wr G n P St) (S : Addr) (out : S ∉ fp) (xs : List Str) (sz : xs.length = n) (few : n ≤ 4000) (val : ∀ i v, P i v → ∃ t, v = .str (xs.getD i Str.empty) t) :
    ∀ (k i : Nat) (s : Shared), n - i = k → i ≤ n → St i s → SetL prog w s.heap S (ddS (xs.take i)) →
      (∀ s', Moved (S :: wr) G s s' → SetL prog w s'.heap S (ddS xs) → R (.ok (.ret .none)) s') →
      codeAny (model prog w) A (.builtin "set.update.loop" ⟨[.ref S, .ref I], []⟩) R s := by
  have nw : S ∉ wr := fun h => out (W.sub _ h)
  have up : ∀ b ∈ wr, b ∈ S :: wr := fun b hb => List.mem_cons_of_mem _ hb
  intro k
  induction k with
  | zero =>
    intro i s hk hi hst hS fin
    have e : i = n := by omega
    subst e
    have e2 : xs.take xs.length = xs := List.take_length
    rw [sz] at e2
    rw [e2] at hS
    refine codeAny_builtin PyProof.Rows.F.entry_set_update_loop ?_
    rw [Around.under_plainId PyProof.Rows.F.plain_set_update_loop _]
    show wpAny _ A.in1 (pyNext (.ref I) >>= _) _ _ s
    exact wpAny_bind (W.done s _ _ hst fun s' hm => wpAny_pure (fin s' (hm.mono up) (hS.at fun o ho => hm.heap S _ nw ho)))
  | succ k ih =>
    intro i s hk hi hst hS fin
    have lt : i < n := by omega
    refine codeAny_builtin PyProof.Rows.F.entry_set_update_loop ?_
    rw [Around.under_plainId PyProof.Rows.F.plain_set_update_loop _]
    show wpAny _ A.in1 (pyNext (.ref I) >>= _) _ _ s
    refine wpAny_bind (W.item i s _ _ lt hst fun v s' hP hst' hm => ?_)
    obtain ⟨t, rfl⟩ := val i v hP
    have hg : xs.getD i Str.empty = xs[i]'(by omega) := by
      rw [List.getD_eq_getElem?_getD, List.getElem?_eq_getElem (by omega)]; rfl
    have hS1 := hS.at (h' := s'.heap) fun o ho => hm.heap S _ nw ho
    have room : (ddS (xs.take i)).length ≤ i := by
      have := ddS_le (xs.take i)
      rw [List.length_take] at this
      omega
    show wpAny _ A.in1 (holding [Value.str (xs.getD i Str.empty) t] (setAdd S (.str (xs.getD i Str.empty) t)) >>= _) _ _ s'
    refine wpAny_bind (wpAny_holding ?_)
    unfold setAdd
    refine wpAny_holding (wpAny_bind ((PySem.strKind prog w).pyHash (k := xs.getD i Str.empty) (strKind_is _ _ _ _) ?_))
    refine wpAny_setAddHashed_of (knd := PySem.strKind prog w) (s := { s' with toks := s'.toks + 1 }) (strKind_is _ _ _ _) rfl hS1 (by unfold scanBound; omega) fun h' hsb hS2 => ?_
    have hS3 : SetL prog w h' S (ddS (xs.take (i + 1))) := by
      rw [ddS_take xs (by omega)]
      refine SetOf_congr hS2 (fun y => ?_) ?_
      · rw [hg]
        by_cases c : y ∈ dstep (ddS (xs.take i)) (xs[i]'(by omega))
        · rw [decide_eq_true c]
          rcases (dstep_mem _ _ _).mp c with z | z
          · rw [decide_eq_true z, Bool.true_or]
          · rw [decide_eq_true z, Bool.or_true]
        · rw [decide_eq_false c, decide_eq_false fun z => c ((dstep_mem _ _ _).mpr (.inl z)), decide_eq_false fun z => c ((dstep_mem _ _ _).mpr (.inr z))]
          rfl
      · rw [dstep_len, hg]
        by_cases c : (xs[i]'(by omega)) ∈ ddS (xs.take i)
        · rw [if_pos c, if_pos (decide_eq_true c)]
        · rw [if_neg c, if_neg (by rw [decide_eq_false c]; exact Bool.false_ne_true)]
    refine wpAny_pure ⟨plainId_quiet PyProof.Rows.F.plain_set_update_loop _, ih (i + 1) _ (by omega) lt (W.frame _ s' _ _ hst' (Nat.le_succ _) fun b hb o e => ?_) hS3 fun s'' hm2 hS'' => ?_⟩
    · rw [hsb.2 b (fun h : b = S => out (by rw [← h]; exact hb))]; exact e
    · refine fin s'' (Moved.trans W.gtrans ((hm.mono up).then_heap (Nat.le_succ _) fun b o hb e => ?_) hm2) hS''
      rw [hsb.2 b (fun h : b = S => hb (by rw [h]; exact List.mem_cons_self))]; exact e
end
section
variable {prog : Program} {w : World} {A : Around} {E : Value → Shared → Prop} {s : Shared}
theorem at_texts : ∀ {us : List Value} {xs : List Str}, PyProof.Rows.StrsAre us xs → ∀ (i : Nat) (v : Value), us[i]? = some v → ∃ t, v = .str (xs.getD i Str.empty) t := fun h i v e => SS.strs_at h i v e
/-- a set's object, made -/
abbrev setNew (led : Bool) : Obj := { cls := .type "set", dict := none, data := .set #[] 0 (.fresh 0 0 led) }
/-- set(l): a list of texts -/
theorem set_of_texts {l : Addr} {items : Array Value} {xs : List Str} {Q : Value → Shared → Prop} (hh : A.handled = none) (hl : s.heap.IsList l items) (hi : PyProof.Rows.StrsAre items.toList xs) (few : xs.length ≤ 4000)
    (h : ∀ (h' : Heap) (tk : Nat), SetL prog w h' s.heap.objs.size (ddS xs) → (∀ b o, b < s.heap.objs.size → s.heap.get? b = some o → h'.get? b = some o) → Q (.ref s.heap.objs.size) { s with heap := h', toks := tk }) :
    wpAny (model prog w) A (call (.type "set") [.ref l]) Q E s := by
  obtain ⟨_, _, hmro⟩ := PySem.F.called_set.mro
  have hmade := PySem.F.called_set.made
  have hsub := PySem.F.called_set.sub
  have h1 := PySem.F.called_set.notType
  have h2 := PySem.F.called_set.canCreate
  have hct := PySem.F.typeCall_set_1 (.ref l)
  refine wpAny_call (codeAny_of_tree ?_)
  show wpAny _ _ (callAny (.type "set") _) _ _ _
  refine wpAny_pure ⟨Code.quiet_builtin _ (by decide +kernel), codeAny_builtin PySem.F.entry_type_call ?_⟩
  rw [Around.under_plain (weight_type_call_type "set" [.ref l] []) rfl]
  repeat (any_goals (first | assumption | wp_step))
  refine codeAny_mono (code_set_new_1 (.ref l) (E := E) (Q₁ := fun obj s₁ => ∃ led : Bool, obj = .ref s.heap.objs.size ∧ s₁ = { s with heap := s.heap.push (setNew led) }) fun led => ⟨led, rfl, rfl⟩) fun r s₁ hr => ?_
  cases r with
  | error e => exact hr
  | ok fl =>
    cases fl with
    | ret obj =>
      obtain ⟨led, rfl, rfl⟩ := hr
      have hS : (s.heap.push (setNew led)).get? s.heap.objs.size = some (setNew led) := Heap.get?_push_size _ rfl
      have hT : Shared.TypeIs { s with heap := s.heap.push (setNew led) } (.ref s.heap.objs.size) "set" := ⟨_, hS, rfl⟩
      have hli := PySem.F.called_set.init.lookup
      have hbi := PySem.F.called_set.init.bind (.ref s.heap.objs.size)
      repeat (any_goals (first | assumption | wp_step))
      refine codeAny_mono (codeAny_call_builtin (R := wants (fun r s₂ => r = .none ∧ ∃ h' tk, s₂ = { s with heap := h', toks := tk } ∧ SetL prog w h' s.heap.objs.size (ddS xs) ∧
          (∀ b o, b < s.heap.objs.size → s.heap.get? b = some o → h'.get? b = some o)) E) PySem.F.called_set.init.plain PySem.F.entry_set_init (check_set_init_1 hT ?_)) fun r₂ s₂ hr₂ => ?_
      · obtain ⟨⟨ocls, odict, odata, oslots⟩, hol, hcl, nl, hdl⟩ := hl
        simp only at hcl hdl
        subst hcl; subst hdl
        have hol' : (s.heap.push (setNew led)).get? l = some { cls := .type "list", dict := odict, data := .seq items nl, slots := oslots } := Heap.get?_push_of_some _ hol
        have hsls := PySem.F.sub_list_set
        have hslf := PySem.F.sub_list_frozenset
        have hne : (Value.type "list" == Value.type "dict") = false := by decide
        have hl1 : (s.heap.push (setNew led)).IsList l items := ⟨_, hol', rfl, nl, rfl⟩
        unfold Builtin.«set.__init__» noKeywords Builtin.Frozenset.updateFrom
        generalize hPI : pyIter = PI
        wp_walk
        subst hPI
        refine wpAny_pyIter_list hl1 (wpAny_bind (wpAny_runValue ?_))
        have lS : l < s.heap.objs.size := Heap.lt_size hol
        have hd : A.in1.in1.in1.handled = none := by simp [hh]
        have neI : l ≠ (s.heap.push (setNew led)).objs.size := by rw [Heap.size_push]; exact Nat.ne_of_lt (Nat.lt_succ_of_lt lS)
        have out : s.heap.objs.size ∉ [(s.heap.push (setNew led)).objs.size, l] := by
          rw [Heap.size_push]
          simp only [List.mem_cons, List.mem_singleton, List.not_mem_nil, or_false, not_or]
          exact ⟨Nat.ne_of_lt (Nat.lt_succ_self _), Nat.ne_of_gt lS⟩
        have sz : xs.length = items.size := by rw [← StrsAre.len_eq hi, Array.length_toList]
        refine walk_texts ((Walks.list hd _ l neI items).toS) s.heap.objs.size out xs sz (by omega) (fun i v hv => SS.strs_at hi i v (by rw [Array.getElem?_toList]; exact hv)) (items.size - 0) 0 _ (by omega) (Nat.zero_le _)
          ⟨⟨_, Heap.get?_push_size _ rfl, rfl, rfl⟩, (hl1.push _)⟩ ?made ?fine
        case made =>
          have hget : ((s.heap.push (setNew led)).push { cls := .type "list_iterator", data := .fields #[.ref l, .int 0 0] }).get? s.heap.objs.size = some (setNew led) := Heap.get?_push_of_some _ hS
          exact SetOf_congr ((PyProof.Rows.setObjOf_fresh (knd := PySem.strKind prog w) led).setOf hget (by unfold scanBound; omega)) (fun _ => rfl) rfl
        case fine =>
          intro s' hm hS'
          obtain ⟨h', g', d', tk', os'⟩ := s'
          have eg : g' = s.gens := hm.gens
          have ed : d' = s.drawn := hm.drawn
          have eo : os' = s.os := hm.os
          subst eg; subst ed; subst eo
          show wpAny _ _ _ _ _ _
          refine wpAny_pure ?_
          show wpAny _ _ (ret Value.none) _ _ _
          refine wpAny_pure ⟨rfl, h', tk', rfl, hS', fun b o hb e => hm.heap b o ?_ (Heap.get?_push_of_some _ (Heap.get?_push_of_some _ e))⟩
          simp only [List.mem_cons, List.mem_singleton, List.not_mem_nil, or_false, not_or]
          exact ⟨Nat.ne_of_lt hb, by rw [Heap.size_push]; exact Nat.ne_of_lt (Nat.lt_succ_of_lt hb)⟩
      · cases r₂ with
        | error e => exact hr₂
        | ok fl₂ =>
          cases fl₂ with
          | ret r =>
            obtain ⟨rfl, h', tk, rfl, hS', hk'⟩ := hr₂
            repeat (any_goals (first | assumption | wp_step))
            exact h _ _ hS' hk'
          | _ => exact hr₂.elim
    | _ => exact hr.elim
end
/-- len(set(e)), e a list of texts -/
def tLset (K : PySem.W.Frag) (ta : TE) : TE := fun σ H Q => ta σ H fun x H1 => ∃ (l : Addr) (xs : List Str), x = .ref l ∧ SqL K H1 l (xs.map V.str) ∧ xs.length ≤ 4000 ∧ Q (.int ((ddS xs).length : Nat)) H1
theorem pe_lset {X : Cx} {a : Expr} {ta : TE} {p p2 q pos : Pos} (hg : Gl X "len") (hm : X.mg "len" = none) (hg2 : Gl X "set") (hm2 : X.mg "set" = none) (ha : PE X a ta) (hc : X.calm = true)
    (na : starEach [a] X.env = (false, eval a X.env) :: starEach [] X.env) : PE X (.Call (.Name "len" p) [.Call (.Name "set" p2) [a] [] q] [] pos) (tLset X.K ta) := by
  refine ⟨fun pins s σ H Q I h => ?_⟩
  refine Call_ (ld_blt I hg hm boot_len ?_)
  refine PyProof.Rows.callWith_builtin1 (PyProof.Rows.args_cons ?_ rfl) rfl rfl
  refine Call_ (ld_blt I hg2 hm2 boot_set ?_)
  refine PyProof.Rows.callWith_type1 (PyProof.Rows.args_cons (thn (ha.run pins s σ H _ I h) fun v s1 ⟨x, H1, I1, r1, q1⟩ => PyProof.Rows.args_nil ?_) na) na rfl
  obtain ⟨l, xs, rfl, hq, few, q1⟩ := q1
  cases r1
  obtain ⟨its, r, pl, hz⟩ := I1.list hq
  refine set_of_texts (I1.ok.hd hc) pl.isList (by simpa using strsAre_of r) few fun h' tk hS hk => ?_
  refine PyProof.Rows.args_nil ?_
  obtain ⟨o, es, ep, t, ho, hex, hd, _, _, _, hf, hn⟩ := hS
  have I2 : Inv X pins σ H1 { s1 with heap := h', toks := tk } := I1.kept fun b o e => hk b o (Heap.lt_size e) e
  have le := ddS_le xs
  exact call_len_set ho hex hd hf (by rw [hn] <;> omega) ⟨.int ((ddS xs).length : Nat), H1, I2.tok _, ⟨_, by rw [hn]⟩, q1⟩
section
variable {T : Tab} {B : Bs} {W : WX} {X : Cx}
theorem sE_lset {e : Expr} {c : S → Oc R} {p p2 q pos : Pos} (hc : X.calm = true) (hg : Gl X "len") (hm : X.mg "len" = none) (hg2 : Gl X "set") (hm2 : X.mg "set" = none) (he : PE X e (tE T X.K B W c)) (hst : starEach [e] X.env = (false, eval e X.env) :: starEach [] X.env) :
    PE X (.Call (.Name "len" p) [.Call (.Name "set" p2) [e] [] q] [] pos) (tE T X.K B W fun s => (c s).bind fun r s1 => opt (lsetV (view s1 r)) s1) := by
  refine pe_imp (pe_lset hg hm hg2 hm2 he hc hst) fun σ H Q ⟨G, s, hR, q⟩ => ?_
  refine ⟨G, s, hR, at_bind q (.refl _ _ _ _) fun r s1 G1 H1 v st z1 R1 p1 q1 => ?_⟩
  obtain ⟨w, hw, q2⟩ := opt_at q1
  unfold lsetV at hw
  split at hw
  · rename_i l hv
    split at hw
    · rename_i xs hx
      split at hw
      · rename_i few
        injection hw with hw; subst hw
        cases view_ok R1 p1 hv with
        | ls e1 rv =>
          have := rv.texts hx
          subst this
          exact ⟨_, xs, rfl, .inl e1, few, at_new q2 z1 R1 (.same (by constructor))⟩
      · cases hw
    · cases hw
  · cases hw
theorem keys_rvs {K : PySem.W.Frag} {G : Gh} {H : Hp} : ∀ {kvs : List (Key × V)} {l : List (D × D)}, RKs T K G H kvs l → RVs T K G H (kvs.map fun kv => kV kv.1) (l.map (·.1))
  | [], [], .nil => .nil
  | _ :: _, _ :: _, .cons e _ t => .cons (key_rv e) (keys_rvs t)
/-- list(e), e a dict in a box -/
theorem sE_lkeys {e : Expr} {c : S → Oc R} {px p : Pos} (hc : X.calm = true) (hg : Gl X "list") (hm : X.mg "list" = none) (he : PE X e (tE T X.K B W c)) (hst : starEach [e] X.env = (false, eval e X.env) :: starEach [] X.env) :
    PE X (.Call (.Name "list" px) [e] [] p) (tE T X.K B W fun s => (c s).bind fun r s1 => opt (lkeysV (view s1 r)) s1) := by
  refine pe_imp (pe_callTy (call_list_dK hc) hg hm (by decide +kernel) (pa_cons he pa_nil hst) (by decide) (by decide) hst rfl) fun σ H Q ⟨G, s, hR, q⟩ => ?_
  refine ⟨G, s, hR, at_bind q (.refl _ _ _ _) fun r s1 G1 H1 v st z1 R1 p1 q1 => ?_⟩
  obtain ⟨w, hw, q2⟩ := opt_at q1
  unfold lkeysV at hw
  split at hw
  · rename_i l hv
    injection hw with hw; subst hw
    cases view_ok R1 p1 hv with
    | dcK e1 rk => exact ⟨_, _, rfl, e1, fun a ha => at_new q2 z1 R1 (.lst ha (keys_rvs rk))⟩
  · cases hw
end
end BB

namespace BB
open PySem PySem.Spec PyProof.Rows L2
/-! d.setdefault(k, x), keys of any kind -/
section
variable {X : Cx} {pins : List (Addr × Obj)} {σ : L2.St} {H H' : Hp} {s : Shared} {a : Addr} {y d : V} {u r : Value} {o : Option V} {A : Around} {E : Value → Shared → Prop}
def DSetd (H : Hp) (a : Addr) (y d : V) (o : Option V) (H' : Hp) : Prop :=
  (∃ kvs k, H a = some (.dK kvs) ∧ y = kV k ∧ kvs.length < sizeLine ∧ o = valV kvs k ∧ H' = if o.isSome = true then H else upd H a (.dK (putK kvs k d))) ∨
  ∃ kvs k b, H a = some (.dT kvs) ∧ y = .ref b ∧ H b = some (.tup (k.map kV)) ∧ kvs.length < sizeLine ∧ o = valV kvs k ∧ H' = if o.isSome = true then H else upd H a (.dT (putK kvs k d))
theorem d_setdG {Q : Value → Shared → Prop} (hu : A.units + 1 < cLine) (I : Inv X pins σ H s) (g : DSetd H a y d o H') (ry : RelV y u) (rd : RelV d r) (h : ∀ w' s', Inv X pins σ H' s' → RelV (o.getD d) w' → Q w' s') :
    wpAny (model X.prog X.w) A (call (.builtin "dict.setdefault") [.ref a, u, r]) Q E s := by
  rcases g with ⟨kvs, k, e, ey, l, eo, eH⟩ | ⟨kvs, k, b, e, ey, eb, l, eo, eH⟩
  · subst ey eH eo
    refine d_setd I e ry rd l (fun v hv w' s' I' r' => ?_) (fun hv w' s' I' r' => ?_)
    · rw [hv] at h
      exact h w' s' I' r'
    · rw [hv] at h
      exact h w' s' I' r'
  · subst ey eH eo
    cases (show u = Value.ref b from ry)
    obtain ⟨z, hd, xs, rel, dd⟩ := dt_of I.hok e
    have hz : xs.length ≤ sizeLine := by rw [← Paired.length rel]; exact z
    have hl : (putK kvs k d).length ≤ sizeLine := by have := length_putK kvs k d; omega
    have q := rel.val k
    refine call_meetsIn PySem.F.slot_dict_setdefault dd.typeIs PySem.F.entry_dict_setdefault (PySem.F.args_dict_setdefault_3 _ _ _) (meetsH_dict_setdefault (tupleKind (mixKind X.prog X.w)) a b hd r) ⟨tupleKind_room_in1 hu, k, xs, L2.key_of I.hok eb, dd, hz, fun p hp => ?_, fun hn h' dd' hs => ?_⟩
    · rw [hp] at q
      cases q0 : valV kvs k with
      | none => rw [q0] at q; exact (show False from q).elim
      | some v0 =>
        rw [q0] at q h
        exact h _ _ (I.tok _) q
    · rw [hn] at q
      cases q0 : valV kvs k with
      | some v0 => rw [q0] at q; exact (show False from q).elim
      | none =>
        rw [q0] at h
        obtain ⟨ob, es, ep, hq, h2, h3, h4, _, h5⟩ := dd'
        refine h _ _ (d_write I (by rw [e]; exact True.intro) hs ⟨ob, hq⟩ ⟨hl, hd, _, (rel.put k eb rd).keeps fun c ys ec => ?_, ob, es, ep, hq, h2, h3, h4, h5⟩) rd
        rw [upd_ne (ne_of ec e (fun z => nomatch z))]
        exact ec
end
/-- e.setdefault(k, x) -/
def tDSetdG (td ty tx : TE) : TE := fun σ H Q => td σ H fun x H1 => ∃ a, x = .ref a ∧ L2.IsD H1 a ∧ ty σ H1 fun y H2 => tx σ H2 fun z H3 => ∃ o H4, DSetd H3 a y z o H4 ∧ Q (o.getD z) H4
section
variable {X : Cx} {o e f : Expr} {td ty tx : TE} {apos cpos : Pos}
theorem pe_dsetdG (hu : X.A.units + 1 < cLine) (ho : PE X o td) (he : PE X e ty) (hf : PE X f tx) (m : M2 X o "setdefault" apos e f cpos) : PE X (.Call (.Attribute o "setdefault" apos) [e, f] [] cpos) (tDSetdG td ty tx) := by
  refine ⟨fun pins s σ H Q I h => ?_⟩
  refine wpAny_Call_method m.base m.few m.line PySem.F.plainAttrs_dict PySem.F.slot_dict_setdefault PySem.F.type_dict_setdefault (thn (ho.run pins s σ H _ I h) fun u s1 ⟨x, H1, I1, rx, a, ex, d, q1⟩ => ?_)
  subst ex
  obtain rfl : u = Value.ref a := rx
  obtain ⟨t1, t2, _⟩ := isD_at I1 d
  refine ⟨t1, t2, ?_⟩
  rw [m.trees]
  refine Calls.callWith_builtin rfl (Calls.evalArgs_plain (Calls.spliced_cons (thn (he.run pins s1 σ H1 _ I1 q1) fun iv s2 ⟨y, H2, I2, ry, q2⟩ =>
    Calls.spliced_cons (thn (hf.run pins s2 σ H2 _ I2 q2) fun fv s3 ⟨z, H3, I3, rz, ov, H4, g, q3⟩ => Calls.spliced_nil ?_))))
  exact d_setdG hu I3 g ry rz fun w' s4 I4 rw' => ⟨_, H4, I4, rw', q3⟩
end
section
variable {T : Tab} {B : Bs} {W : WX} {X : Cx}
def get1C (co ca : S → Oc R) (s : S) : Oc R := (co s).bind fun x s1 => match dcV (view s1 x) with
    | some _ => (ca s1).bind fun y s2 => match dcV (view s2 x), keepR y with
      | some (t, l), some k => match keyT t k with
        | some q => .ok (.va ((dget q l).getD .non)) s2
        | none => .bad
      | _, _ => .bad
    | _ => .bad
theorem sE_get1 {o a : Expr} {co ca : S → Oc R} {pa p : Pos} (hu : X.A.units + 1 < cLine) (ho : PE X o (tE T X.K B W co)) (ha : PE X a (tE T X.K B W ca)) (m : M1 X o "get" pa a p) : PE X (.Call (.Attribute o "get" pa) [a] [] p) (tE T X.K B W (get1C co ca)) := pe_imp (pe_dget1 hu ho ha m) fun σ H Q ⟨G, s, hR, q⟩ => by
  refine ⟨G, s, hR, at_bind q (.refl _ _ _ _) fun x s1 G1 H1 v1 st1 z1 R1 p1 q1 => ?_⟩
  split at q1
  · rename_i l0 hl0
    obtain ⟨w0, hw0⟩ := dcV_some hl0
    rw [hw0] at hl0
    obtain ⟨a0, rfl, isd⟩ := (view_ok R1 p1 hw0).isD hl0
    refine ⟨a0, rfl, isd, G1, s1, R1, at_bind q1 z1 fun y s2 G2 H2 v2 st2 z2 R2 p2 q2 => ?_⟩
    split at q2
    · rename_i t l k hl hk
      obtain ⟨w, hw⟩ := dcV_some hl
      rw [hw] at hl
      split at q2
      · rename_i kk hkk
        obtain ⟨G3, st3, R3, rv⟩ := keep1 R2 st2 p2 hk
        obtain ⟨a', e, g⟩ := (view_ok R3 (RR.mono p1 st3) hw).dget hl hkk rv
        cases e
        rcases g with ⟨g1, g2⟩ | ⟨v, d', g1, g2, g3⟩
        · rw [g2] at q2
          exact ⟨none, g1, at_new q2 (z1.trans st3) R3 (.same .non)⟩
        · rw [g2] at q2
          exact ⟨some v, g1, at_new q2 (z1.trans st3) R3 (.same g3)⟩
      · exact q2.elim
    · exact q2.elim
  · exact q1.elim
def setdC (co ca cb : S → Oc R) (s : S) : Oc R := (co s).bind fun x s1 => match dcV (view s1 x) with
    | some _ => (ca s1).bind fun y s2 => (cb s2).bind fun z s3 => match view s3 x, keepRs [y, z] with
      | some (.dc t l), some [k, d] => match keyT t k with
        | some q => if l.length < sizeLine then (match dget q l with
          | some v => .ok (.va v) s3
          | none => match chg (putB (some k) d) x s3 with
            | some s4 => .ok (.va d) s4
            | none => .bad) else .bad
        | none => .bad
      | _, _ => .bad
    | _ => .bad
theorem sE_setd {o a b : Expr} {co ca cb : S → Oc R} {pa p : Pos} (hu : X.A.units + 1 < cLine) (ho : PE X o (tE T X.K B W co)) (ha : PE X a (tE T X.K B W ca)) (hb : PE X b (tE T X.K B W cb)) (m : M2 X o "setdefault" pa a b p) : PE X (.Call (.Attribute o "setdefault" pa) [a, b] [] p) (tE T X.K B W (setdC co ca cb)) := pe_imp (pe_dsetdG hu ho ha hb m) fun σ H Q ⟨G, s, hR, q⟩ => by
  refine ⟨G, s, hR, at_bind q (.refl _ _ _ _) fun x s1 G1 H1 v1 st1 z1 R1 p1 q1 => ?_⟩
  split at q1
  · rename_i l0 hl0
    obtain ⟨w0, hw0⟩ := dcV_some hl0
    rw [hw0] at hl0
    obtain ⟨a0, rfl, isd⟩ := (view_ok R1 p1 hw0).isD hl0
    refine ⟨a0, rfl, isd, G1, s1, R1, at_bind q1 z1 fun y s2 G2 H2 v2 st2 z2 R2 p2 q2 => ⟨G2, s2, R2, at_bind q2 z2 fun z s3 G3 H3 v3 st3 z3 R3 p3 q3 => ?_⟩⟩
    split at q3
    · rename_i t l k d hl hk
      split at q3
      · rename_i kk hkk
        split at q3
        · rename_i len
          have pr : RRs T X.K B s1 H1 G3 s3 σ H3 [v2, v3] [y, z] := .cons (p2.mono st3) (.cons (p3.back st2) .nil)
          obtain ⟨G4, st4, R4, rv⟩ := keepN R3 (st2.trans st3) pr hk
          cases rv with
          | cons r1 rv => cases rv with
            | cons r2 rv =>
              have rx := RR.mono p1 st4
              have vw := view_ok R4 rx hl
              cases vw with
              | @dcK a' kvs l' ea rk =>
                obtain ⟨kq, rfl, e2⟩ := keyT_f hkk
                have ey : v2 = kV kq := key_of e2 r1
                rcases rk.get kq with ⟨g1, g2⟩ | ⟨v', d', g1, g2, g3⟩
                · rw [g2] at q3
                  dsimp only at q3
                  split at q3
                  · rename_i s5 hc
                    obtain ⟨a2, b2, b2', o2, e1, hf, hb2, _, mu, fin⟩ := chg_ok R4 rx hc (putB_lk _ _).1 (putB_lk _ _).2
                    cases e1
                    cases hb2 with
                    | @dcK vs l2 e3 r =>
                      rw [ea] at e3
                      cases e3
                      simp only [putB, hkk] at hf
                      split at hf
                      · injection hf with hf; subst hf
                        obtain ⟨f1, f2, f3⟩ := fin (.dK (putK kvs kq v3)) fun P => .dcK upd_same ((r.mono P).put e2 (r2.mono P))
                        exact ⟨none, _, .inl ⟨kvs, kq, ea, ey, by rw [rk.length]; exact len, g1.symm, rfl⟩, q3 _ _ _ ((z1.trans st4).trans f3) f1 (.va (r2.mono f2))⟩
                      · cases hf
                    | dcT e3 _ => rw [ea] at e3; cases e3
                    | ls e3 _ => rw [ea] at e3; cases e3
                    | _ => simp [putB] at hf
                  · exact q3.elim
                · rw [g2] at q3
                  exact ⟨some v', H3, .inl ⟨kvs, kq, ea, ey, by rw [rk.length]; exact len, g1.symm, rfl⟩, at_new q3 (z1.trans st4) R4 (.same g3)⟩
              | @dcT a' kvs l' ea rk =>
                obtain ⟨kq, rfl, e2⟩ := keyT_t hkk
                obtain ⟨bq, ey, eb⟩ := tkey_of e2 r1
                rcases rk.get kq with ⟨g1, g2⟩ | ⟨v', d', g1, g2, g3⟩
                · rw [g2] at q3
                  dsimp only at q3
                  split at q3
                  · rename_i s5 hc
                    obtain ⟨a2, b2, b2', o2, e1, hf, hb2, _, mu, fin⟩ := chg_ok R4 rx hc (putB_lk _ _).1 (putB_lk _ _).2
                    cases e1
                    cases hb2 with
                    | @dcT vs l2 e3 r =>
                      rw [ea] at e3
                      cases e3
                      simp only [putB, hkk] at hf
                      split at hf
                      · injection hf with hf; subst hf
                        obtain ⟨f1, f2, f3⟩ := fin (.dT (putK kvs kq v3)) fun P => .dcT upd_same ((r.mono P).put e2 (r2.mono P))
                        exact ⟨none, _, .inr ⟨kvs, kq, bq, ea, ey, eb, by rw [rk.length]; exact len, g1.symm, rfl⟩, q3 _ _ _ ((z1.trans st4).trans f3) f1 (.va (r2.mono f2))⟩
                      · cases hf
                    | dcK e3 _ => rw [ea] at e3; cases e3
                    | ls e3 _ => rw [ea] at e3; cases e3
                    | _ => simp [putB] at hf
                  · exact q3.elim
                · rw [g2] at q3
                  exact ⟨some v', H3, .inr ⟨kvs, kq, bq, ea, ey, eb, by rw [rk.length]; exact len, g1.symm, rfl⟩, at_new q3 (z1.trans st4) R4 (.same g3)⟩
        · exact q3.elim
      · exact q3.elim
    · exact q3.elim
  · exact q1.elim
end
end BB

namespace BB
open PySem PySem.Spec PyProof.Rows L2
/-! what is seen of the text -/
section
variable (PG : Prog) (nm : Nat → Str) (N : List Str)
def kd (sc : Scope) (x : Str) (k : NameKind) : Bool := decide (sc.names.lookup x = some k)
def okVar (sc : Scope) (i : Nat) (x : Str) : Bool := decide (N[i]? = some x) && (kd sc x .local || kd sc x .cell || kd sc x .free) && !(x == ("__debug__" : Str)) && !(x == ("__classdict__" : Str))
def okNm (sc : Scope) (blk : Bool) (i : Nat) (x : Str) : Bool := decide (N[i]? = some x) && (kd sc x .local || (!blk && kd sc x .cell))
def okTg (sc : Scope) (blk : Bool) : Tg → Bool
  | .nm i x _ => okNm N sc blk i x
  | .tp l _ _ => l.all fun t => okNm N sc blk t.1 t.2.1
/-- a block's own target, captured or not -/
def okNmB (scope sc : Scope) (i : Nat) (x : Str) : Bool := decide (N[i]? = some x) && (kd (relS scope sc) x .local || (kd scope x .cell && kd (relS scope sc) x .cell))
def okTgB (scope sc : Scope) : Tg → Bool
  | .nm i x _ => okNmB N scope sc i x
  | .tp l _ _ => l.all fun t => okNmB N scope sc t.1 t.2.1
def okGl (sc : Scope) (x : Str) : Bool := kd sc x .globalImplicit && !(x == ("__debug__" : Str)) && !(x == ("__name__" : Str))
def types : List String := ["str", "int", "bool", "tuple", "list", "dict"]
def CL.len : CL → Nat
  | .nil => 0
  | .cons _ cs => cs.len + 1
def CP.len : CP → Nat
  | .nil => 0
  | .cons _ _ cs => cs.len + 1
def isLc : C → Bool
  | .lc .. => true
  | .lcl .. => true
  | .bx c => isLc c
  | _ => false
def C.core : C → C
  | .bx c => c.core
  | c => c
/-- tests that are told by their value -/
def byVal : C → Bool
  | .cmp .. => false
  | .din .. => false
  | .chain .. => false
  | .and_ .. => false
  | .or_ .. => false
  | .not_ .. => false
  | .ife .. => false
  | .un .. => false
  | .bx c => byVal c
  | _ => true
def isTp : Tg → Bool
  | .tp .. => true
  | _ => false
def okWk (sc : Scope) (w : Wk) (tg : Tg) (pa pc : Pos) : Bool := match w with
  | .seq => true
  | .keys => false
  | .vals => pa.endLine == pc.line
  | .items => isTp tg && (pa.endLine == pc.line)
  | .enum => isTp tg && okGl sc "enumerate"
mutual
def okC (sc : Scope) (blk : Bool) : C → Bool
  | .bx c => okC sc blk c && byVal c
  | .dnw _ _ => true
  | .fld o _ _ => okC sc blk o
  | .meth o _ pa es p => okC sc blk o && okL sc blk es && decide (es.len < 29) && (pa.endLine == p.line)
  | .dctp c _ _ => okGl sc "dict" && okC sc blk c
  | .dctt c _ _ => okGl sc "dict" && okC sc blk c
  | .lset c _ _ _ _ => okGl sc "len" && okGl sc "set" && okC sc blk c
  | .lkeys c _ _ => okGl sc "list" && okC sc blk c
  | .inb c _ _ => okGl sc "int" && okC sc blk c
  | .dpop1 o k pa p => okC sc blk o && okC sc blk k && (pa.endLine == p.line)
  | .dpop2 o k d pa p => okC sc blk o && okC sc blk k && okC sc blk d && (pa.endLine == p.line)
  | .mtd o _ pa a p => okC sc blk o && okC sc blk a && (pa.endLine == p.line)
  | .mtk o _ pa a _ _ b p => okC sc blk o && okC sc blk a && okC sc blk b && (pa.endLine == p.line)
  | .new c x _ es _ => okGl sc x && decide (PG.own[c]? = some x) && (PG.ini c).isSome && okL sc blk es && decide (0 < es.len)
  | .pop o i pa p => okC sc blk o && okO sc blk i && (pa.endLine == p.line)
  | .srt _ c _ _ => okGl sc "sorted" && okC sc blk c
  | .srti c pa pc _ _ => okGl sc "sorted" && okC sc blk c && (pa.endLine == pc.line)
  | .srtk _ c n x _ _ _ _ => okGl sc "sorted" && okC sc blk c && okGl sc x && decide (nm n = x ∧ x ≠ "") && decide ((PG.fns[n]?).map (·.ps) = some 1)
  | .xfl _ _ _ _ _ => false
  | .lcl elt tg w c pa pc ifs scope own _ => okC sc blk c && blkC N sc scope own && okTgB N scope sc tg && (tgIx tg).all (fun i => decide (i ∈ own.map (·.2))) && okL (relS scope sc) true ifs && okC (relS scope sc) true elt && decide (ifs.len ≤ 1) && okWk sc w tg pa pc
  | .var i x _ => okVar N sc i x
  | .fz i x _ => okVar N sc i x
  | .mv i x _ => okVar N sc i x
  | .cint _ _ _ => true
  | .cbl _ _ _ => true
  | .cnon _ _ => true
  | .cstr _ _ _ => true
  | .glo n x _ => okGl sc x && (match PG.cst[n]? with | some (y, _) => decide (x = y) | none => false)
  | .bty n x _ => okGl sc x && decide (n ∈ types) && decide (x = Str.ofString n)
  | .tup es _ _ => okL sc blk es
  | .lst es _ => okL sc blk es
  | .dct ps _ => okP sc blk ps && decide (0 < ps.len) && decide (ps.len ≤ 15)
  | .bin _ a b _ => okC sc blk a && okC sc blk b
  | .un o a _ => (match o with | .USub => true | _ => false) && okC sc blk a
  | .cmp _ a b _ => okC sc blk a && okC sc blk b
  | .chain _ _ a b c _ => okC sc blk a && okC sc blk b && okC sc blk c
  | .and_ a es _ => okC sc blk a && okL sc blk es && decide (0 < es.len)
  | .or_ a es _ => okC sc blk a && okL sc blk es && decide (0 < es.len)
  | .not_ a _ => okC sc blk a
  | .ife t a b _ => okC sc blk t && okC sc blk a && okC sc blk b
  | .call n x _ es _ => okGl sc x && decide (nm n = x ∧ x ≠ "") && (PG.fns[n]?).isSome && okL sc blk es && decide (0 < es.len)
  | .bi b _ es _ => okGl sc b.name && okL sc blk es && decide (0 < es.len)
  | .mt m o pa es p => okC sc blk o && okL sc blk es && decide (es.len < 28) && (pa.endLine == p.line) && decide (m.id ∈ ["str.count", "str.split", "str.join", "str.upper", "str.startswith", "str.endswith", "str.index"])
  | .get2 o a b pa p => okC sc blk o && okC sc blk a && okC sc blk b && (pa.endLine == p.line)
  | .get1 o a pa p => okC sc blk o && okC sc blk a && (pa.endLine == p.line)
  | .setd o a b pa p => okC sc blk o && okC sc blk a && okC sc blk b && (pa.endLine == p.line)
  | .ix a b _ => okC sc blk a && okC sc blk b
  | .dix a b _ => okC sc blk a && okC sc blk b
  | .din _ a b _ => okC sc blk a && okC sc blk b
  | .sl a lo hi _ _ => okC sc blk a && okO sc blk lo && okO sc blk hi
  | .isx _ _ _ _ _ _ _ _ => false
  | .isxb _ _ _ _ _ _ _ => false
  | .isxt _ _ _ _ _ _ _ _ => false
  | .hcal _ _ _ _ _ _ _ => false
  | .lme _ o a pa p => okC sc blk o && okC sc blk a && (pa.endLine == p.line)
  | .rvt a _ _ _ _ _ => okC sc blk a
  | .fnv n x _ => okGl sc x && decide (nm n = x ∧ x ≠ "") && (PG.fns[n]?).isSome
  | .calv i x _ es _ => okVar N sc i x && okL sc blk es && decide (0 < es.len)
  | .lc elt tg it ifs scope own _ => okI sc blk tg it && blkC N sc scope own && okTgB N scope sc tg && (tgIx tg).all (fun i => decide (i ∈ own.map (·.2))) && okL (relS scope sc) true ifs && okC (relS scope sc) true elt && decide (ifs.len ≤ 1)
def okL (sc : Scope) (blk : Bool) : CL → Bool
  | .nil => true
  | .cons c cs => okC sc blk c && okL sc blk cs
def okP (sc : Scope) (blk : Bool) : CP → Bool
  | .nil => true
  | .cons k v r => okC sc blk k && okC sc blk v && okP sc blk r
def okO (sc : Scope) (blk : Bool) : CO → Bool
  | .no => true
  | .so c => okC sc blk c
def okI (sc : Scope) (blk : Bool) (tg : Tg) : CI → Bool
  | .sq c => okC sc blk c
  | .rng1 a _ _ => okGl sc "range" && okC sc blk a
  | .rng2 _ _ _ _ => false
  | .enu c _ _ => okGl sc "enumerate" && okC sc blk c && (match tg with | .tp .. => true | _ => false)
  | .zip _ _ _ _ => false
end
def isTupC : C → Bool
  | .tup .. => true
  | .bx c => isTupC c
  | _ => false
/-! what a suite may hold -/
mutual
def hokC (fl : Bool) (sc : Scope) : C → Bool
  | .var i x _ => okVar N sc i x
  | .cint _ _ _ => true
  | .cbl _ _ _ => true
  | .cnon _ _ => true
  | .cstr _ _ _ => true
  | .glo n x _ => okGl sc x && (match PG.cst[n]? with | some (y, _) => decide (x = y) | none => false)
  | .tup es _ _ => hokL fl sc es
  | .lst es _ => hokL fl sc es
  | .bin _ a b _ => hokC fl sc a && hokC fl sc b
  | .cmp _ a b _ => hokC fl sc a && hokC fl sc b
  | .and_ a es _ => hokC fl sc a && hokL fl sc es && decide (0 < es.len)
  | .or_ a es _ => hokC fl sc a && hokL fl sc es && decide (0 < es.len)
  | .not_ a _ => hokC fl sc a
  | .ix a b _ => hokC fl sc a && hokC fl sc b
  | .dix a b _ => hokC fl sc a && hokC fl sc b
  | .inb c _ _ => okGl sc "int" && hokC fl sc c
  | .xfl i x _ _ _ => okVar N sc i x && fl
  | .isx i x _ _ n y _ _ => okVar N sc i x && okGl sc "isinstance" && okGl sc y && decide (PG.cls[n]? = some y)
  | .isxb i x _ _ y _ _ => okVar N sc i x && okGl sc "isinstance" && okGl sc y && decide (y = "ValueError")
  | .isxt i x _ _ l _ _ _ => okVar N sc i x && okGl sc "isinstance" && l.all (fun t => okGl sc t.2.1 && decide (PG.cls[t.1]? = some t.2.1)) && decide (l.length ≤ sizeLine)
  | .hcal n f _ i x _ _ => okVar N sc i x && okGl sc f && decide (nm n = f ∧ f ≠ "") && decide ((PG.fns[n]?).isNone = true ∧ (PG.hfs[n - PG.fns.length]?).isSome = true) && fl
  | .lme _ o a pa p => hokC fl sc o && hokC fl sc a && (pa.endLine == p.line)
  | _ => false
def hokL (fl : Bool) (sc : Scope) : CL → Bool
  | .nil => true
  | .cons c cs => hokC fl sc c && hokL fl sc cs
end
mutual
def hokS (fl : Bool) (sc : Scope) : CS → Bool
  | .set i x _ c _ => okNm N sc false i x && hokC PG nm N fl sc c && !isLc c
  | .seto i x _ c _ => okNm N sc false i x && hokC PG nm N fl sc c && !isLc c
  | .app i x _ pa c pc _ => okVar N sc i x && hokC PG nm N fl sc c && (pa.endLine == pc.line)
  | .ifs t a b _ => hokC PG nm N fl sc t && hokB fl sc a && hokB fl sc b
  | .ret c _ => hokC PG nm N fl sc c && !isLc c
  | .sput o k _ c _ => hokC PG nm N fl sc o && hokC PG nm N fl sc k && hokC PG nm N fl sc c && !isLc c
  | .pass _ => true
  | _ => false
def hokB (fl : Bool) (sc : Scope) : CB → Bool
  | .nil => true
  | .cons c cs => hokS fl sc c && hokB fl sc cs
end
def okH (sc : Scope) : CH → Bool
  | .nil => true
  | .cons n x _ c su _ r => okGl sc x && decide (PG.cls[n]? = some x) && hokS PG nm N true sc c && hokB PG nm N true sc su && okH sc r
  | .as_ n x _ i y c su _ r => okGl sc x && decide (PG.cls[n]? = some x) && hokS PG nm N true sc c && hokB PG nm N true sc su && (decide (N[i]? = some y) && kd sc y .local && okH sc r)
/-- a statement that gives out a token; one that wants one -/
def isTokM : CS → Bool
  | .tokm (.set _ _ _ (.ix (.cstr _ _ _) _ _) _) => true
  | _ => false
def okRep (sc : Scope) : CS → Bool
  | .rep i x _ j y _ c1 c2 _ _ _ _ pa pc _ => okNm N sc false i x && okVar N sc j y && !(c1 == c2) && (pa.endLine == pc.line)
  | _ => false
def CH.ok : CH → Bool
  | .nil => false
  | _ => true
mutual
def okS (sc : Scope) : CS → Bool
  | .set i x px c p => okNm N sc false i x && okC PG nm N sc false c && (!isLc c || (kd sc x .local && (match c with
      | .lc _ _ _ _ scope _ q => (px.line == q.line) && !(scope.names.any fun (n, k) => n == x && (k == .local || k == .cell))
      | _ => false)))
  | .seto i x _ c _ => okNm N sc false i x && okC PG nm N sc false c && !isLc c
  | .unp l _ _ c _ => l.all (fun t => okNm N sc false t.1 t.2.1) && okC PG nm N sc false c && !isTupC c
  | .app i x _ pa c pc _ => okVar N sc i x && okC PG nm N sc false c && (pa.endLine == pc.line)
  | .expr c _ => okC PG nm N sc false c && !isLc c
  | .rev i x _ pa pc _ => okVar N sc i x && (pa.endLine == pc.line)
  | .ret c _ => okC PG nm N sc false c
  | .ifs t a b _ => okC PG nm N sc false t && okB sc a && okB sc b
  | .for_ tg it b _ => okTg N sc false tg && okI PG nm N sc false tg it && okB sc b
  | .while_ t b _ => okC PG nm N sc false t && okB sc b
  | .ret0 _ => true
  | .swp2 i x px j y py _ _ a b _ _ _ => okNm N sc false i x && okNm N sc false j y && kd sc x .local && kd sc y .local && decide (i ≠ j) && !(x == y) && (py.line == px.line) && decide (sc.kind = .function) && okC PG nm N sc false a && okC PG nm N sc false b && !([a.up, b.up].all (foldedForSure 8)) && !([a.up, b.up].all (constantsAlone 8))
  | .pass _ => true
  | .wild _ => true
  | .tokm c => okS sc c
  | .rep .. => false
  | .sfld o _ _ c _ => okC PG nm N sc false o && okC PG nm N sc false c && !isLc c
  | .sput o k _ c _ => okC PG nm N sc false o && okC PG nm N sc false k && okC PG nm N sc false c && !isLc c
  | .mapp o pa c pc _ => okC PG nm N sc false o && okC PG nm N sc false c && (pa.endLine == pc.line)
  | .mclr o pa pc _ => okC PG nm N sc false o && (pa.endLine == pc.line)
  | .mext o pa c pc _ => okC PG nm N sc false o && okC PG nm N sc false c && (pa.endLine == pc.line)
  | .raisx n x _ c _ _ => okGl sc x && decide (PG.cls[n]? = some x) && (PG.xin n).isSome && okC PG nm N sc false c
  | .forl tg w c pa pc b _ => okTg N sc false tg && okC PG nm N sc false c && okB sc b && okWk sc w tg pa pc
  | .setl i x px elt tg w c pa pc ifs scope own q _ => okNm N sc false i x && okC PG nm N sc false c && blkC N sc scope own && okTgB N scope sc tg && (tgIx tg).all (fun i => decide (i ∈ own.map (·.2))) && okL PG nm N (relS scope sc) true ifs && okC PG nm N (relS scope sc) true elt && decide (ifs.len ≤ 1) && okWk sc w tg pa pc &&
      (kd sc x .local && ((px.line == q.line) && !(scope.names.any fun (n, k) => n == x && (k == .local || k == .cell))))
  | .raise_ n x _ _ _ _ _ _ => okGl sc x && decide (PG.cls[n]? = some x) && (PG.xin n).isNone
  | .try_ b hs _ => okB sc b && hs.ok && okH PG nm N sc hs
def okB (sc : Scope) : CB → Bool
  | .nil => true
  | .cons c cs => okS sc c && (okB sc cs || (isTokM c && okT sc cs))
def okT (sc : Scope) : CB → Bool
  | .nil => true
  | .cons c cs => (okS sc c || okRep N sc c) && okT sc cs
end
end

/-! shapes -/
theorem C.core_id (c : C) (h : ∀ x, c ≠ .bx x) : c.core = c := by
  cases c <;> first | rfl | exact absurd rfl (h _)
theorem core_ind {P : C → C → Prop} (hb : ∀ c d, P c d → P (.bx c) d) (hc : ∀ c, (∀ x, c ≠ .bx x) → P c c) (c : C) : P c c.core := by
  induction c using C.core.induct with
  | case1 c ih => exact hb c _ ih
  | case2 c h =>
    have : ∀ x, c ≠ .bx x := fun x e => h x e
    rw [C.core_id c this]
    exact hc c this
theorem C.core_ne (c : C) : ∀ x, c.core ≠ .bx x := core_ind (P := fun _ d => ∀ x, d ≠ .bx x) (fun _ _ h => h) (fun _ h => h) c
theorem up_core (c : C) : c.up = c.core.up := core_ind (P := fun c d => c.up = d.up) (fun _ _ h => h) (fun _ _ => rfl) c
theorem isLc_core (c : C) : isLc c = isLc c.core := core_ind (P := fun c d => isLc c = isLc d) (fun _ _ h => h) (fun _ _ => rfl) c
theorem isTupC_core (c : C) : isTupC c = isTupC c.core := core_ind (P := fun c d => isTupC c = isTupC d) (fun _ _ h => h) (fun _ _ => rfl) c
theorem okC_core {PG : Prog} {nm : Nat → Str} {N : List Str} {sc : Scope} {blk : Bool} (c : C) : okC PG nm N sc blk c = true → okC PG nm N sc blk c.core = true := core_ind (P := fun c d => okC PG nm N sc blk c = true → okC PG nm N sc blk d = true) (fun c d h e => h (by have e : (okC PG nm N sc blk c && byVal c) = true := e; rw [Bool.and_eq_true] at e; exact e.1)) (fun _ _ h => h) c
theorem nostar (c : C) (es : List Expr) (env : Env) : starEach (c.up :: es) env = (false, eval c.up env) :: starEach es env := by
  rw [up_core]
  have := c.core_ne
  generalize c.core = d at *
  cases d <;> first | rfl | exact absurd rfl (this _)
theorem plainL (p : Pos) (env : Env) : ∀ cs : CL, (backTo p (starEach cs.up env)).any (·.1) = false
  | .nil => rfl
  | .cons c cs => by
    show (backTo p (starEach (c.up :: cs.up) env)).any (·.1) = false
    rw [nostar]
    exact plainL p env cs
theorem plainA (p : Pos) (env : Env) : ∀ cs : CL, (backTo p (starEach cs.up env)).all (fun x => !x.1) = true
  | .nil => rfl
  | .cons c cs => by
    show (backTo p (starEach (c.up :: cs.up) env)).all (fun x => !x.1) = true
    rw [nostar]
    exact plainA p env cs
theorem up_len : ∀ cs : CL, cs.up.length = cs.len
  | .nil => rfl
  | .cons c cs => by show cs.up.length + 1 = _; rw [up_len cs]; rfl
theorem upK_len : ∀ cs : CP, cs.upK.length = cs.len
  | .nil => rfl
  | .cons c d cs => by show cs.upK.length + 1 = _; rw [upK_len cs]; rfl
theorem upV_len : ∀ cs : CP, cs.upV.length = cs.len
  | .nil => rfl
  | .cons c d cs => by show cs.upV.length + 1 = _; rw [upV_len cs]; rfl
theorem upK_all : ∀ cs : CP, cs.upK.all (·.isSome) = true
  | .nil => rfl
  | .cons c d cs => by show (true && _) = true; rw [upK_all cs]; rfl
theorem base_of {PG : Prog} {nm : Nat → Str} {N : List Str} {sc : Scope} {blk : Bool} (c : C) (f : Str) (env : Env) (h : okC PG nm N sc blk c = true) : attributeBase c.up f env (eval c.up env) = eval c.up env := by
  rw [up_core]
  replace h := okC_core _ h
  have := c.core_ne
  generalize c.core = d at *
  cases d <;> first
    | rfl
    | exact absurd rfl (this _)
    | (rename_i es _; cases es <;> first | rfl | (simp [okC, CL.len] at h; done))
    | skip
theorem plainIx_of (c : C) : PlainIx c.up := by
  rw [up_core]
  have := c.core_ne
  generalize c.core = d at *
  cases d <;> first | exact absurd rfl (this _) | (intro o i; rfl)
theorem noSl_of (c : C) : NoSl c.up := by
  rw [up_core]
  have := c.core_ne
  generalize c.core = d at *
  cases d <;> first | exact absurd rfl (this _) | (intro o i; rfl)
theorem mark_of (o : CmpOp) (c : C) : behindInMarks o c.up = false := by
  rw [up_core]
  have := c.core_ne
  generalize c.core = d at *
  cases d <;> first | rfl | exact absurd rfl (this _)
theorem marks_of (o o' : CmpOp) (b c : C) : lastMarks [o, o'] [b.up, c.up] = false := by
  rw [up_core c]
  have := c.core_ne
  generalize c.core = d at *
  cases d <;> first | rfl | exact absurd rfl (this _)
theorem fold_of (c : CI) (env : Env) : ∀ x, foldedSetIterable c.up env x = pure x := by
  intro x
  cases c with
  | sq c =>
    show foldedSetIterable c.up env x = _
    rw [up_core]
    have := c.core_ne
    generalize c.core = d at *
    cases d <;> first | rfl | exact absurd rfl (this _)
  | _ => rfl
theorem foldC_of (c : C) (env : Env) : ∀ x, foldedSetIterable c.up env x = pure x := fold_of (.sq c) env
theorem foldW_of (w : Wk) (c : C) (pa pc : Pos) (env : Env) : ∀ x, foldedSetIterable (wkUp w c.up pa pc) env x = pure x := by
  intro x
  cases w with
  | seq => exact foldC_of c env x
  | keys => exact foldC_of c env x
  | _ => rfl
theorem swaps_of (c : C) (t : Option Expr) (l : Nat) (env : Env) (h : isLc c = false) : swapsWith c.up t l env = pure false := by
  rw [up_core]
  rw [isLc_core] at h
  have := c.core_ne
  generalize c.core = d at *
  cases d <;> first | rfl | (cases h; done) | exact absurd rfl (this _)
theorem swapsT_of (c : C) (l : List (Nat × Str × Pos)) (k : Nat) (pt : Pos) (n : Nat) (env : Env) : swapsWithSole [.Tuple (upNs l) k pt] c.up n env = pure false := by
  rw [up_core]
  have := c.core_ne
  generalize c.core = d at *
  cases d <;> first | rfl | exact absurd rfl (this _)
theorem swapped_of (c : C) (l : List (Nat × Str × Pos)) (k : Nat) (pt : Pos) (env : Env) (h : isTupC c = false) : swappedStores [.Tuple (upNs l) k pt] c.up env = pure none := by
  rw [up_core]
  rw [isTupC_core] at h
  have := c.core_ne
  generalize c.core = d at *
  cases d <;> first | rfl | (cases h; done) | exact absurd rfl (this _)
theorem byVal_core (c : C) : byVal c = byVal c.core := core_ind (P := fun c d => byVal c = byVal d) (fun _ _ h => h) (fun _ _ => rfl) c
theorem isTrue_of (c : C) (env : Env) (h : byVal c = true) : ∀ whole, isTrue c.up env whole = (do let v ← whole; standAt c.up.pos; holding [v] (truthy v)) := by
  rw [up_core]
  rw [byVal_core] at h
  have := c.core_ne
  generalize c.core = d at *
  cases d <;> first | (intro w; rfl) | (cases h; done) | exact absurd rfl (this _)
/-- a method's call, as it is evaluated -/
theorem meth_evG {o : Expr} (m : Str) (es : List Expr) (kws : List Keyword) (pa p : Pos) (env : Env) (hbase : attributeBase o m env (eval o env) = eval o env) (hfew : methodCallForm es.length (backTo p (starEach es env)) (backToKw p (keywordEach kws env)) = true) (hline : (pa.endLine == p.line) = true)
    (h1 : eval (.Call (.Attribute o m pa) es kws p) env = (do
      let ov ← attributeBase o m env (eval o env)
      standAt pa.atName
      methodCall o m pa p env ov es.length (backTo p (starEach es env)) (backToKw p (keywordEach kws env)))) : ∃ pl : Sem Bool, eval (.Call (.Attribute o m pa) es kws p) env = (do
      let ov ← eval o env
      standAt pa.atName
      let (f, first) ← holding [ov] (getMethod ov m pl)
      callWith p f first (backTo p (starEach es env)) (backToKw p (keywordEach kws env))) := by
  refine ⟨do return (← importBound o env).getD true, ?_⟩
  rw [h1, hbase]
  have h2 : ∀ ov, methodCall o m pa p env ov es.length (backTo p (starEach es env)) (backToKw p (keywordEach kws env)) = (do
      let (f, first) ← holding [ov] (getMethod ov m (do return (← importBound o env).getD true))
      callWith p f first (backTo p (starEach es env)) (backToKw p (keywordEach kws env))) := fun ov => by
    unfold methodCall
    rw [hfew]
    have h3 : methodCallPos true o env pa p = pure p := by
      unfold methodCallPos
      rw [hline]
      rfl
    rw [h3]
    rfl
  have h4 : (fun ov => methodCall o m pa p env ov es.length (backTo p (starEach es env)) (backToKw p (keywordEach kws env))) = fun ov => (do
      let (f, first) ← holding [ov] (getMethod ov m (do return (← importBound o env).getD true))
      callWith p f first (backTo p (starEach es env)) (backToKw p (keywordEach kws env))) := funext h2
  simp only [h2]
theorem meth_ev {o : Expr} (m : Str) (es : List Expr) (pa p : Pos) (env : Env) (hbase : attributeBase o m env (eval o env) = eval o env) (hfew : methodCallForm es.length (backTo p (starEach es env)) (backToKw p (keywordEach [] env)) = true) (hline : (pa.endLine == p.line) = true) : ∃ pl : Sem Bool, eval (.Call (.Attribute o m pa) es [] p) env = (do
      let ov ← eval o env
      standAt pa.atName
      let (f, first) ← holding [ov] (getMethod ov m pl)
      callWith p f first (backTo p (starEach es env)) (backToKw p (keywordEach [] env))) := meth_evG m es [] pa p env hbase hfew hline rfl
theorem meth_evk {o : Expr} (m : Str) (e e2 : Expr) (kw : Str) (pk pa p : Pos) (env : Env) (hbase : attributeBase o m env (eval o env) = eval o env) (hfew : methodCallForm [e].length (backTo p (starEach [e] env)) (backToKw p (keywordEach [⟨some kw, e2, pk⟩] env)) = true) (hline : (pa.endLine == p.line) = true) : ∃ pl : Sem Bool, eval (.Call (.Attribute o m pa) [e] [⟨some kw, e2, pk⟩] p) env = (do
      let ov ← eval o env
      standAt pa.atName
      let (f, first) ← holding [ov] (getMethod ov m pl)
      callWith p f first (backTo p (starEach [e] env)) (backToKw p (keywordEach [⟨some kw, e2, pk⟩] env))) := meth_evG m [e] [⟨some kw, e2, pk⟩] pa p env hbase hfew hline rfl
theorem form_of (p : Pos) (env : Env) (cs : CL) (h : cs.len < 29) : methodCallForm cs.up.length (backTo p (starEach cs.up env)) (backToKw p (keywordEach [] env)) = true := by
  unfold methodCallForm
  rw [plainA p env cs, up_len]
  show (true && (true && decide (cs.len + 0 < 30))) = true
  simp
  omega
theorem form_k (p : Pos) (env : Env) (a : C) (x : Str) (b : C) (pk : Pos) : methodCallForm [a.up].length (backTo p (starEach [a.up] env)) (backToKw p (keywordEach [⟨some x, b.up, pk⟩] env)) = true := by
  unfold methodCallForm
  rw [show [a.up] = (CL.cons a .nil).up from rfl, plainA p env (.cons a .nil)]
  rfl
theorem up_nostar (c : C) (v : Expr) (p : Pos) : c.up ≠ .Starred v p := by
  rw [up_core]
  have := c.core_ne
  generalize c.core = d at *
  cases d <;> first | exact absurd rfl (this _) | (intro h; cases h)
theorem swap2_of (a b : C) {x y : Str} {px py pt pt2 : Pos} {kt k2 : Nat} (env : Env) (hx : env.scope.names.lookup x = some .local) (hy : env.scope.names.lookup y = some .local) (ne : x ≠ y) (hl : py.line = px.line) (hk : env.scope.kind = .function)
    (hf : ([a.up, b.up].all (foldedForSure 8)) = false) (hc : ([a.up, b.up].all (constantsAlone 8)) = false) : swappedStores [.Tuple [.Name x px, .Name y py] kt pt] (.Tuple [a.up, b.up] k2 pt2) env = pure (some [x, y]) := by
  have kx : env.kindOf x = some .local := hx
  have ky : env.kindOf y = some .local := hy
  have bk : env.blockKind = .function := by
    unfold Env.blockKind
    rw [hk]
    rfl
  have s1 := up_nostar a
  have s2 := up_nostar b
  have e : (y == x) = false := by simpa using ne.symm
  generalize a.up = ea at *
  generalize b.up = eb at *
  unfold swappedStores
  show (if (!((2 == 2) || (2 == 3)) || 2 != 2 || env.blockKind != .function) = true then _ else _) = _
  rw [bk]
  rw [if_neg (by decide)]
  rw [if_neg (by
    intro h
    simp only [List.any_cons, List.any_nil, Bool.or_false, Bool.or_eq_true] at h
    try (rcases h with h | h
         · revert h; split
           · exact absurd rfl (s1 _ _)
           · exact Bool.false_ne_true
         · revert h; split
           · exact absurd rfl (s2 _ _)
           · exact Bool.false_ne_true)
    try exact Bool.false_ne_true h)]
  rw [if_neg (by simp [kx, ky, hl, Expr.pos, List.eraseDups, List.eraseDupsBy, List.eraseDupsBy.loop, e])]
  rw [if_neg (by rw [hf]; exact Bool.false_ne_true), if_neg (by rw [hc]; exact Bool.false_ne_true)]
  simp [kx, ky, hl, Expr.pos]
end BB

namespace BB
open PySem PySem.Spec PyProof.Rows L2
/-! exceptions with an own __init__ -/
/-- Base.__init__(self, ..), Base an own class -/
theorem pe_oeinit {X : Cx} {b : Str} {Cb : Addr} {e : Expr} {es : List Expr} {ta : TA} {p1 p2 pos : Pos} {pl : Sem Bool} (hg : Gl X b) (hm : X.mg b = some (.ref Cb)) (hd : (b == ("__debug__" : Str)) = false)
    (hsp : PySem.W.specialIn X.K (.ref Cb) "__getattribute__" = some (some (.builtin "type.__getattribute__"))) (hr : PySem.W.readsIn X.K Cb (.type "type") = true)
    (vV : PySem.W.findCls X.K (.ref Cb) (.type "type") "__init__" = some (.val (.builtin "ValueError.__init__"))) (ha : PA X (e :: es) ta)
    (hc : eval (.Call (.Attribute (.Name b p1) "__init__" p2) (e :: es) [] pos) X.env = (do
      let ov ← eval (.Name b p1) X.env
      standAt p2.atName
      let (f, first) ← holding [ov] (getMethod ov "__init__" pl)
      callWith pos f first (backTo pos (starEach (e :: es) X.env)) (backToKw pos (keywordEach [] X.env))) := by rfl)
    (he : starEach (e :: es) X.env = (false, eval e X.env) :: starEach es X.env := by rfl) (hpl : (backTo pos (starEach es X.env)).any (·.1) = false := by rfl) :
    PE X (.Call (.Attribute (.Name b p1) "__init__" p2) (e :: es) [] pos) (tVeI X.K ta) := by
  refine ⟨fun pins s σ H Q I h => ?_⟩
  refine PySem.W.methodCall_KW (ld_glob I hg hm ?_ hd) hc
  refine PySem.W.method_cls I.kIn hsp ?_
  refine PySem.W.cls_value I.kIn hr vV (by decide +kernel) ?_
  show wpAny _ _ (callWith pos (Value.builtin "ValueError.__init__") [] (backTo pos (starEach (e :: es) X.env)) []) _ _ _
  refine PyProof.Rows.callWith_method1 (thn (ha.run pos pins _ σ H _ (I.tok _) h) fun us s1 ⟨vs, H1, I1, r1, a, C, ws, ev, hl, T, ea, q⟩ => ?_) he hpl
  subst ev
  cases r1 with
  | @cons _ u0 _ ur ra rw' =>
    obtain rfl : u0 = Value.ref a := ra
    have hlen : ur.length ≤ sizeLine := by
      rw [← Paired.length rw', sizeLine_eq]
      omega
    exact oinit_ok T I1 ea hlen fun s' J => ⟨.non, H1, J, rfl, q⟩
/-- what such an __init__ does -/
def spX (C : Addr) (f : Str) (q : Option Nat) : Sp := fun vs H Q _ => ∃ a y, vs = [.ref a, y] ∧ (match q with
  | none => True
  | some m => ∃ x, y = .str x ∧ m + x.length ≤ sizeLine) ∧ H a = some (exo a C none) ∧ ∀ d, H d = none → d ≠ a → Q .non (upd (upd H d (exd d [(f, y)])) a (exo a C (some d)))
/-- its text -/
structure XTxt (K : PySem.W.Frag) (mg : Str → Option Value) (C Cb : Addr) (b f : Str) : Prop where
  T : OexC K C
  no : PySem.W.findIn K (.ref C) f = some none
  mb : mg b = some (.ref Cb)
  sp : PySem.W.specialIn K (.ref Cb) "__getattribute__" = some (some (.builtin "type.__getattribute__"))
  rd : PySem.W.readsIn K Cb (.type "type") = true
  ini : PySem.W.findCls K (.ref Cb) (.type "type") "__init__" = some (.val (.builtin "ValueError.__init__"))
section
variable {P : Program} {w : World} {K : PySem.W.Frag} {mg : Str → Option Value} {base : Heap} {C Cb fI : Addr} {b f x qual y : Str} {st : Stmt} {fd : FuncData} {p1 p2 p3 p4 p5 p6 p7 p8 p9 pm : Pos} {j : Nat}
theorem oex_lit {m : Str} (F : Fun K x qual st fI fd) (S : FnScope ["self", y] ["self", y] (defScope st)) (hx : XTxt K mg C Cb b f) (hgb : (defScope st).names.lookup b = some .globalImplicit) (hd : (b == ("__debug__" : Str)) = false)
    (v0 : Vis (defScope st) "self") (v1 : Vis (defScope st) y) (hyd : (y == ("__debug__" : Str)) = false) (hyc : (y == ("__classdict__" : Str)) = false)
    (hl : (p2.endLine == p4.line) = true) (hb : defBody st = [.Expr (.Call (.Attribute (.Name b p1) "__init__" p2) [.Name "self" p3, .Constant (.str m) j pm] [] p4) p5, .Assign [.Attribute (.Name "self" p6) f p7] (.Name y p8) p9]) :
    FnOk P w K mg base (L2.CX P w) 1 fI fd ["self", y] (spX C f none) := by
  refine F.okX S (fun vs H Q E h => ?_) (fun cdv A outer s H vs Q E hr h => ?_)
  · obtain ⟨a, z, rfl, _⟩ := h
    rfl
  · obtain ⟨a, z, rfl, _, ea, k⟩ := h
    rw [hb]
    obtain ⟨pl, hev⟩ := meth_ev (o := .Name b p1) "__init__" [.Name "self" p3, .Constant (.str m) j pm] p2 p4 (cxOf (L2.CX P w) P w K mg base ["self", y] qual (defScope st) fI cdv A outer s H E).env rfl rfl hl
    refine ⟨_, pss_cons (ps_expr (pe_oeinit hgb hx.mb hd hx.sp hx.rd hx.ini (pa_cons (pv 0 rfl v0) (pa_cons pe_str pa_nil)) hev)) (pss_one (ps_ost (pv 0 rfl v0) (pv 1 rfl v1 hyd hyc) rfl)), ?_⟩
    refine ⟨_, rfl, a, C, [.str m], rfl, (by show 1 ≤ 1000; decide), hx.T, ea, ?_⟩
    refine ⟨_, rfl, _, rfl, a, C, rfl, hx.T, hx.no, .inl ⟨ea, fun d hdn ne => ?_⟩⟩
    exact k d hdn ne
theorem oex_cat {m : Str} {pb py : Pos} (F : Fun K x qual st fI fd) (S : FnScope ["self", y] ["self", y] (defScope st)) (hx : XTxt K mg C Cb b f) (hgb : (defScope st).names.lookup b = some .globalImplicit) (hd : (b == ("__debug__" : Str)) = false)
    (v0 : Vis (defScope st) "self") (v1 : Vis (defScope st) y) (hyd : (y == ("__debug__" : Str)) = false) (hyc : (y == ("__classdict__" : Str)) = false)
    (hl : (p2.endLine == p4.line) = true) (hb : defBody st = [.Expr (.Call (.Attribute (.Name b p1) "__init__" p2) [.Name "self" p3, .BinOp (.Constant (.str m) j pm) .Add (.Name y py) pb] [] p4) p5, .Assign [.Attribute (.Name "self" p6) f p7] (.Name y p8) p9]) :
    FnOk P w K mg base (L2.CX P w) 1 fI fd ["self", y] (spX C f (some m.length)) := by
  refine F.okX S (fun vs H Q E h => ?_) (fun cdv A outer s H vs Q E hr h => ?_)
  · obtain ⟨a, z, rfl, _⟩ := h
    rfl
  · obtain ⟨a, z, rfl, ⟨n, rfl, hln⟩, ea, k⟩ := h
    rw [hb]
    obtain ⟨pl, hev⟩ := meth_ev (o := .Name b p1) "__init__" [.Name "self" p3, .BinOp (.Constant (.str m) j pm) .Add (.Name y py) pb] p2 p4 (cxOf (L2.CX P w) P w K mg base ["self", y] qual (defScope st) fI cdv A outer s H E).env rfl rfl hl
    refine ⟨_, pss_cons (ps_expr (pe_oeinit hgb hx.mb hd hx.sp hx.rd hx.ini (pa_cons (pv 0 rfl v0) (pa_cons (pe_op op_add_str pe_str (pv 1 rfl v1 hyd hyc)) pa_nil)) hev)) (pss_one (ps_ost (pv 0 rfl v0) (pv 1 rfl v1 hyd hyc) rfl)), ?_⟩
    refine ⟨_, rfl, _, rfl, _, _, rfl, rfl, hln, a, C, [.str (m ++ n)], rfl, (by show 1 ≤ 1000; decide), hx.T, ea, ?_⟩
    refine ⟨_, rfl, _, rfl, a, C, rfl, hx.T, hx.no, .inl ⟨ea, fun d hdn ne => ?_⟩⟩
    exact k d hdn ne
end
/-- what is known of an exception class with an own __init__ -/
structure XinOk (P : Program) (w : World) (K : PySem.W.Frag) (mg : Str → Option Value) (base : Heap) (C : Addr) (f : Str) (q : Option Nat) : Prop where
  T : OexC K C
  no : PySem.W.findIn K (.ref C) f = some none
  fn : ∃ (fI : Addr) (fd : FuncData) (ps : List Str), PySem.W.findIn K (.ref C) "__init__" = some (some (.ref fI)) ∧ PySem.W.typeIn K (.ref fI) = some (.type "function") ∧ L2.Binds K fd ps [] ∧ FnOk P w K mg base (L2.CX P w) 1 fI fd ps (spX C f q)
section
variable {X : Cx} {T : Tab} {B : Bs} {W : WX} {PG : Prog}
theorem sS_raisx {n : Nat} {x f : Str} {q : Option Nat} {e : Expr} {c : S → Oc R} {px pc p : Pos} (hc : X.calm = true) (tk : L2.Takes X W) (hr : Room 2 X.A) (hn : PG.xin n = some (f, q)) (hx : XinOk X.prog X.w X.K X.mg X.base (T.c n) f q) (hg : Gl X x) (hm : X.mg x = some (.ref (T.c n))) (hdb : (x == ("__debug__" : Str)) = false)
    (he : PE X e (tE T X.K B W c)) (hst : starEach [e] X.env = (false, eval e X.env) :: starEach [] X.env) :
    PS X (.Raise (some (.Call (.Name x px) [e] [] pc)) none p) (tS T X.K B W fun s => (c s).fl (raisF PG n)) := by
  obtain ⟨fI, fd, ps, iC, tI, bd, F1⟩ := hx.fn
  refine ps_imp (ps_raise hc tk (pmk_oex hx.T iC tI F1 hr bd .nil (fun pins σ H s e s' I h => (by obtain ⟨_, _, _, _, _, _, _, _, _, _, _, _, z⟩ := h; exact z.elim)) hg hm (pa_cons he pa_nil hst) hdb hst rfl)) fun De σ H ⟨G, s, hR, z⟩ => ?_
  refine ⟨G, s, hR, f_bind (P := PR T X.K B) z (.refl _ _) fun r s1 G1 H1 v st p1 R1 r1 q1 => ?_⟩
  unfold raisF at q1
  split at q1
  · rename_i d f' k hk hq
    rw [hn] at hq
    cases hq
    obtain ⟨G2, st2, R2, rv, P2⟩ := keep1p R1 st r1 hk
    have key : FAt T X.K B W (.ex n [(f, d)] s1) G1 H1 De → ∀ a, H1 a = none → ∀ dd, (upd H1 a (exo a (T.c n) none)) dd = none → dd ≠ a →
        ((V.non = V.non) ∧ ∃ (d : Addr) (fs : List (Str × V)), (upd (upd (upd H1 a (exo a (T.c n) none)) dd (exd dd [(f, v)])) a (exo a (T.c n) (some dd))) a = some (exo a (T.c n) (some d)) ∧
          (upd (upd (upd H1 a (exo a (T.c n) none)) dd (exd dd [(f, v)])) a (exo a (T.c n) (some dd))) d = some (exd d fs) ∧ H1 d = none ∧
          W (.ref (T.c n)) (some d) σ (upd (del (upd (upd (upd H1 a (exo a (T.c n) none)) dd (exd dd [(f, v)])) a (exo a (T.c n) (some dd))) a) d (.xd fs))) := fun q1 a ha dd hd ne => by
      have hd1 : H1 dd = none := by rw [upd_ne ne] at hd; exact hd
      refine ⟨rfl, dd, [(f, v)], upd_same, by rw [upd_ne ne, upd_same], hd1, ?_⟩
      have eH : upd (del (upd (upd (upd H1 a (exo a (T.c n) none)) dd (exd dd [(f, v)])) a (exo a (T.c n) (some dd))) a) dd (.xd [(f, v)]) = upd H1 dd (.xd [(f, v)]) := by
        funext b
        by_cases h1 : b = dd
        · rw [h1, upd_same, upd_same]
        · rw [upd_ne h1, upd_ne h1]
          by_cases h2 : b = a
          · rw [h2, del_same, ha]
          · rw [del_ne h2, upd_ne h2, upd_ne h1, upd_ne h2]
      rw [eH]
      have P3 : Pers G2 H1 G2 (upd H1 dd (.xd [(f, v)])) := pers_upd hd1 R2.c
      exact q1 G2 σ _ _ _ (P2.trans P3) (R2.laid hd1) ⟨rfl, .inr ⟨by simp, dd, [(f, v)], rfl, upd_same, .cons (rv.mono P3) .nil⟩⟩
    cases q with
    | none => exact ⟨by show 1 ≤ 1000; decide, fun a ha => ⟨a, v, rfl, trivial, upd_same, fun dd hd ne => key q1 a ha dd hd ne⟩⟩
    | some m =>
      dsimp only at q1
      split at q1
      · rename_i xx
        split at q1
        · rename_i hl
          cases rv
          exact ⟨by show 1 ≤ 1000; decide, fun a ha => ⟨a, _, rfl, ⟨_, rfl, by omega⟩, upd_same, fun dd hd ne => key q1 a ha dd hd ne⟩⟩
        · exact q1.elim
      · exact q1.elim
  · exact q1.elim
end
end BB

namespace BB
open PySem PySem.Spec PyProof.Rows L2
/-- an own exception class -/
structure ClsOk (K : PySem.W.Frag) (C : Addr) : Prop where
  kp : PySem.W.keepIn K (.ref C) = true
  sb : PySem.W.subIn K (.ref C) (.type "BaseException") = some true
  ty : PySem.W.typeIn K (.ref C) = some (.type "type")
  ex : ExcC K C
/-- what the text says of its own classes -/
structure OwnM (K : PySem.W.Frag) (mg : Str → Option Value) (PG : Prog) (T : Tab) : Prop where
  at_ : ∀ (c : Nat) (x : Str), PG.own[c]? = some x → mg x = some (.ref (T.o c))
  mth : ∀ (m : Str) (c n : Nat), PG.mth c m = some n → Cls K (T.o c) ∧ Meth K (T.o c) m (T.f n) ∧ ∃ f, PG.fns[n]? = some f
  fld : ∀ (f : Str) (c : Nat), PG.fldOk c f = true → Cls K (T.o c) ∧ NoAttr K (T.o c) f
  ini : ∀ (c n : Nat), PG.ini c = some n → Mk K (T.o c) (T.f n) ∧ ∃ f, PG.fns[n]? = some f
/-- a def that a suite calls with the caught error -/
structure HFn (K : PySem.W.Frag) (mg : Str → Option Value) (PG : Prog) (nm : Nat → Str) (T : Tab) (n : Nat) (f : FnD) : Prop where
  ex : ∃ (x qual : Str) (st : Stmt) (fd : FuncData) (N : List Str) (y : Str), Fun K x qual st (T.f n) fd ∧ FnScope N [y] (defScope st) ∧ defBody st = f.body.up ∧ hokB PG nm N false (defScope st) f.body = true ∧ f.ns = N.length ∧ L2.Binds K fd [y] []
  at_ : nm n ≠ "" → mg (nm n) = some (.ref (T.f n))
  kp : PySem.W.keepIn K (.ref (T.f n)) = true
/-- what the text around says -/
structure Mg (X : Cx) (PG : Prog) (nm : Nat → Str) (T : Tab) : Prop where
  fn : ∀ n : Nat, (PG.fns[n]?).isSome = true → nm n ≠ "" → X.mg (nm n) = some (.ref (T.f n))
  own : OwnM X.K X.mg PG T
  bi : ∀ b : Bi, X.mg b.name = none
  rng : X.mg "range" = none
  enu : X.mg "enumerate" = none
  zip : X.mg "zip" = none
  ty : ∀ n ∈ types, X.mg (Str.ofString n) = none
  cst : ∀ (n : Nat) (x : Str) (d : D), PG.cst[n]? = some (x, d) → ∃ u v, X.mg x = some u ∧ RelV v u ∧ ∀ G H, RV T X.K G H v d
  cls : ∀ (n : Nat) (x : Str), PG.cls[n]? = some x → X.mg x = some (.ref (T.c n)) ∧ ClsOk X.K (T.c n)
  pln : ∀ (n : Nat) (x : Str), PG.cls[n]? = some x → PG.xin n = none → PySem.W.excIn X.K (T.c n) [.type "ValueError", .type "Exception", .type "BaseException", .type "object"] "ValueError.__new__" = true
  xin : ∀ (n : Nat) (f : Str) (q : Option Nat), PG.xin n = some (f, q) → XinOk X.prog X.w X.K X.mg X.base (T.c n) f q
  xcl : ∀ (n : Nat) (q : Str × Option Nat), PG.xin n = some q → ∃ y, PG.cls[n]? = some y
  sub : ∀ (n m : Nat) (x y : Str), PG.cls[n]? = some x → PG.cls[m]? = some y → PySem.W.exmOne X.K (.ref (T.c n)) (.ref (T.c m)) = some (PG.sub n m) ∧ PySem.W.kitOne X.K (.ref (T.c n)) (.ref (T.c m)) = some (PG.sub n m)
  vle : ∀ (n : Nat) (x : Str), PG.cls[n]? = some x → PySem.W.kitOne X.K (.ref (T.c n)) (.type "ValueError") = some true
  vln : X.mg "ValueError" = none
  hot : ∀ (n : Nat) (f : FnD), PG.fns[n]? = none → PG.hfs[n - PG.fns.length]? = some f → HFn X.K X.mg PG nm T n f
structure Cxt (X : Cx) (PG : Prog) (nm : Nat → Str) (T : Tab) (N : List Str) (sc : Scope) (k : Nat) : Prop where
  N : X.N = N
  sc : X.env.scope = sc
  calm : X.calm = true
  nd : X.N.Nodup
  room : Room (2 * k + 2) X.A
  F : Fns X PG T k
  mg : Mg X PG nm T
  nx : T.x = none
theorem boot_ty {n : String} (h : n ∈ types) : bootBuiltins (Str.ofString n) = some (.type n) := by
  unfold types at h
  simp only [List.mem_cons, List.not_mem_nil, or_false] at h
  rcases h with rfl | rfl | rfl | rfl | rfl | rfl <;> decide +kernel
section
variable {X : Cx} {PG : Prog} {nm : Nat → Str} {T : Tab} {N : List Str} {sc : Scope} {k : Nat}
theorem Cxt.hu (h : Cxt X PG nm T N sc k) : X.A.units + 65 < cLine := by have := h.room.un; omega
theorem Cxt.blk (h : Cxt X PG nm T N sc k) (s : Shared) (H : Hp) (scope : Scope) (C : Addr) (cl : List (Str × Addr)) (fp : List Addr) : Cxt (X.blk s H scope (compEnvC scope cl C X.env) fp) PG nm T N (relS scope sc) k := by
  refine ⟨h.N, ?_, h.calm, h.nd, h.room, ⟨h.F.fn⟩, ⟨h.mg.fn, h.mg.own, h.mg.bi, h.mg.rng, h.mg.enu, h.mg.zip, h.mg.ty, h.mg.cst, h.mg.cls, h.mg.pln, h.mg.xin, h.mg.xcl, h.mg.sub, h.mg.vle, h.mg.vln, h.mg.hot⟩, h.nx⟩
  rw [← h.sc]; rfl
theorem kd_of {x : Str} {q : NameKind} (h : kd sc x q = true) : sc.names.lookup x = some q := of_decide_eq_true h
theorem var_of (h : Cxt X PG nm T N sc k) {i : Nat} {x : Str} {p : Pos} (o : okVar N sc i x = true) : PE X (.Name x p) (tVar i) := by
  unfold okVar at o
  simp only [Bool.and_eq_true, Bool.or_eq_true, Bool.not_eq_true', decide_eq_true_eq] at o
  obtain ⟨⟨⟨o1, o2⟩, o3⟩, o4⟩ := o
  refine pe_var (by rw [h.N]; exact o1) ?_ o3 o4
  unfold Vis
  rw [h.sc]
  rcases o2 with (o2 | o2) | o2
  · exact .inl (kd_of o2)
  · exact .inr (.inl (kd_of o2))
  · exact .inr (.inr (kd_of o2))
theorem gl_of (h : Cxt X PG nm T N sc k) {x : Str} (o : okGl sc x = true) : Gl X x ∧ (x == ("__debug__" : Str)) = false ∧ x ≠ "__name__" := by
  unfold okGl at o
  simp only [Bool.and_eq_true, Bool.not_eq_true'] at o
  obtain ⟨⟨o1, o2⟩, o3⟩ := o
  refine ⟨?_, o2, fun z => ?_⟩
  · show X.env.scope.names.lookup x = _
    rw [h.sc]; exact kd_of o1
  · rw [z] at o3; exact absurd o3 (by decide)
theorem nm_of (h : Cxt X PG nm T N sc k) {blk : Bool} (hf : blk = false → X.fn = fun _ => true) {i : Nat} {x : Str} (o : okNm N sc blk i x = true) : NmOk X i x := by
  unfold okNm at o
  simp only [Bool.and_eq_true, Bool.or_eq_true, Bool.not_eq_true', decide_eq_true_eq] at o
  obtain ⟨o1, o2⟩ := o
  refine ⟨by rw [h.N]; exact o1, ?_⟩
  unfold L2.Loc
  rw [h.sc]
  rcases o2 with o2 | ⟨o2, o3⟩
  · exact ⟨.inl (kd_of o2), .inr (kd_of o2)⟩
  · exact ⟨.inr (kd_of o3), .inl (by rw [hf o2])⟩
theorem nms_of (h : Cxt X PG nm T N sc k) {blk : Bool} (hf : blk = false → X.fn = fun _ => true) : ∀ {l : List (Nat × Str × Pos)}, (l.all fun t => okNm N sc blk t.1 t.2.1) = true → NmsOk X l
  | [], _ => trivial
  | (i, x, p) :: r, o => by
    rw [List.all_cons, Bool.and_eq_true] at o
    exact ⟨nm_of h hf o.1, nms_of h hf o.2⟩
theorem tg_of (h : Cxt X PG nm T N sc k) {blk : Bool} (hf : blk = false → X.fn = fun _ => true) {tg : Tg} (o : okTg N sc blk tg = true) : TgOk X tg := by
  cases tg with
  | nm i x p => exact nm_of h hf o
  | tp l k p => exact nms_of h hf o
theorem nm_ofB {s : Shared} {H : Hp} {scope : Scope} {C : Addr} {cl : List (Str × Addr)} {fp : List Addr} (h : Cxt (X.blk s H scope (compEnvC scope cl C X.env) fp) PG nm T N (relS scope sc) k) {i : Nat} {x : Str} (o : okNmB N scope sc i x = true) : NmOk (X.blk s H scope (compEnvC scope cl C X.env) fp) i x := by
  unfold okNmB at o
  simp only [Bool.and_eq_true, Bool.or_eq_true, decide_eq_true_eq] at o
  obtain ⟨o1, o2⟩ := o
  refine ⟨by rw [h.N]; exact o1, ?_⟩
  unfold L2.Loc
  rw [h.sc]
  rcases o2 with o2 | ⟨o2, o3⟩
  · exact ⟨.inl (kd_of o2), .inr (kd_of o2)⟩
  · refine ⟨.inr (kd_of o3), .inl ?_⟩
    show (scope.names.lookup x == some NameKind.cell) = true
    rw [kd_of o2]; rfl
theorem nms_ofB {s : Shared} {H : Hp} {scope : Scope} {C : Addr} {cl : List (Str × Addr)} {fp : List Addr} (h : Cxt (X.blk s H scope (compEnvC scope cl C X.env) fp) PG nm T N (relS scope sc) k) : ∀ {l : List (Nat × Str × Pos)}, (l.all fun t => okNmB N scope sc t.1 t.2.1) = true → NmsOk (X.blk s H scope (compEnvC scope cl C X.env) fp) l
  | [], _ => trivial
  | (i, x, p) :: r, o => by
    rw [List.all_cons, Bool.and_eq_true] at o
    exact ⟨nm_ofB h o.1, nms_ofB h o.2⟩
theorem tg_ofB {s : Shared} {H : Hp} {scope : Scope} {C : Addr} {cl : List (Str × Addr)} {fp : List Addr} (h : Cxt (X.blk s H scope (compEnvC scope cl C X.env) fp) PG nm T N (relS scope sc) k) {tg : Tg} (o : okTgB N scope sc tg = true) : TgOk (X.blk s H scope (compEnvC scope cl C X.env) fp) tg := by
  cases tg with
  | nm i x p => exact nm_ofB h o
  | tp l k p => exact nms_ofB h o
theorem few_of (p : Pos) (env : Env) (c : C) (cs : CL) (h : cs.len + 1 < 29) : ((backTo p (starEach (c.up :: cs.up) env)).all (fun x => !x.1) && (backToKw p (keywordEach [] env)).all (fun x => x.1.isSome)
      && decide ((c.up :: cs.up).length + ([] : List Keyword).length + (if ([] : List Keyword).isEmpty then 0 else 1) < 30)) = true := by
  have h1 := plainA p env (.cons c cs)
  have h1 : (backTo p (starEach (c.up :: cs.up) env)).all (fun x => !x.1) = true := h1
  rw [h1]
  have h2 : (backToKw p (keywordEach [] env)).all (fun x => x.1.isSome) = true := rfl
  rw [h2]
  have h3 : (c.up :: cs.up).length = cs.len + 1 := by rw [List.length_cons, up_len]
  rw [h3]
  simp
  omega
end
theorem sE_inb {T : Tab} {B : Bs} {W : WX} {X : Cx} {e : Expr} {c : S → Oc R} {px p : Pos} (hg : Gl X "int") (hm : X.mg "int" = none) (he : PE X e (tE T X.K B W c)) (hst : starEach [e] X.env = (false, eval e X.env) :: starEach [] X.env) :
    PE X (.Call (.Name "int" px) [e] [] p) (tE T X.K B W fun s => (c s).bind fun r s1 => inbV r s1) := by
  refine pe_imp (pe_callTy call_int1 hg hm (by decide +kernel) (pa_cons he pa_nil hst) (by decide) (by decide) hst rfl) fun σ H Q ⟨G, s, hR, q⟩ => ?_
  refine ⟨G, s, hR, at_bind q (.refl _ _ _ _) fun r s1 G1 H1 v st z1 R1 p1 q1 => ?_⟩
  unfold inbV at q1
  split at q1
  · rename_i b
    cases p1 with
    | va rv =>
      cases rv
      exact .inr ⟨b, rfl, q1 _ _ _ z1 R1 (.va (.int _))⟩
  · exact q1.elim
/-- the word of an expression -/
abbrev SE (PG : Prog) (nm : Nat → Str) (T : Tab) (N : List Str) (k : Nat) (c : C) : Prop := ∀ (X : Cx) (sc : Scope) (blk : Bool) (B : Bs) (W : WX), Cxt X PG nm T N sc k → L2.Takes X W → okC PG nm N sc blk c = true →
  PE X c.up (tE T X.K B W (ev PG (cal PG k) c)) ∧ PT X c.up (tT T X.K B W fun s => asB (ev PG (cal PG k) c s))
section
variable {PG : Prog} {nm : Nat → Str} {T : Tab} {N : List Str} {k : Nat}
/-- by its value -/
theorem se_val {X : Cx} {B : Bs} {W : WX} {c : C} (hv : byVal c = true) (h : PE X c.up (tE T X.K B W (ev PG (cal PG k) c))) : PE X c.up (tE T X.K B W (ev PG (cal PG k) c)) ∧ PT X c.up (tT T X.K B W fun s => asB (ev PG (cal PG k) c s)) :=
  ⟨h, sT_val h (isTrue_of c X.env hv)⟩
theorem nb {b : Bool} (h : (!b) = true) : b = false := by cases b <;> first | rfl | cases h
theorem a2 {a b : Bool} (h : (a && b) = true) : a = true ∧ b = true := by rwa [Bool.and_eq_true] at h
theorem a3 {a b c : Bool} (h : (a && b && c) = true) : a = true ∧ b = true ∧ c = true := ⟨(a2 (a2 h).1).1, (a2 (a2 h).1).2, (a2 h).2⟩
theorem a4 {a b c d : Bool} (h : (a && b && c && d) = true) : a = true ∧ b = true ∧ c = true ∧ d = true := ⟨(a3 (a2 h).1).1, (a3 (a2 h).1).2.1, (a3 (a2 h).1).2.2, (a2 h).2⟩
theorem a5 {a b c d e : Bool} (h : (a && b && c && d && e) = true) : a = true ∧ b = true ∧ c = true ∧ d = true ∧ e = true := ⟨(a4 (a2 h).1).1, (a4 (a2 h).1).2.1, (a4 (a2 h).1).2.2.1, (a4 (a2 h).1).2.2.2, (a2 h).2⟩
/-- lists of values to be joined: what an and, an or wants of the rest -/
abbrev SAnd (PG : Prog) (nm : Nat → Str) (T : Tab) (N : List Str) (k : Nat) (cs : CL) : Prop := ∀ (X : Cx) (sc : Scope) (blk : Bool) (B : Bs) (W : WX) (p : Pos), Cxt X PG nm T N sc k → L2.Takes X W → okL PG nm N sc blk cs = true → 0 < cs.len →
  (PE X (.BoolOp .And cs.up p) (tE T X.K B W (evAnd PG (cal PG k) cs)) ∧ PW X (.BoolOp .And cs.up p) (tT T X.K B W fun s => asB (evAnd PG (cal PG k) cs s))) ∧
  (PE X (.BoolOp .Or cs.up p) (tE T X.K B W (evOr PG (cal PG k) cs)) ∧ PW X (.BoolOp .Or cs.up p) (tT T X.K B W fun s => asB (evOr PG (cal PG k) cs s)))
abbrev SL (PG : Prog) (nm : Nat → Str) (T : Tab) (N : List Str) (k : Nat) (cs : CL) : Prop := ∀ (X : Cx) (sc : Scope) (blk : Bool) (B : Bs) (W : WX), Cxt X PG nm T N sc k → L2.Takes X W → okL PG nm N sc blk cs = true →
  PA X cs.up (tL T X.K B W (evL PG (cal PG k) cs)) ∧ (cs.len ≤ 1 → PTs X cs.up (tT T X.K B W (evIfs PG (cal PG k) cs))) ∧
  (0 < cs.len → ∀ p, (PE X (.BoolOp .And cs.up p) (tE T X.K B W (evAnd PG (cal PG k) cs)) ∧ PW X (.BoolOp .And cs.up p) (tT T X.K B W fun s => asB (evAnd PG (cal PG k) cs s))) ∧
  (PE X (.BoolOp .Or cs.up p) (tE T X.K B W (evOr PG (cal PG k) cs)) ∧ PW X (.BoolOp .Or cs.up p) (tT T X.K B W fun s => asB (evOr PG (cal PG k) cs s))))
theorem pts_imp {X : Cx} {e : List Expr} {t t' : TT} (h : PTs X e t) (i : ∀ σ H Q, t' σ H Q → t σ H Q) : PTs X e t' := ⟨fun pins s σ H Q I q => h.run pins s σ H Q I (i σ H Q q)⟩
abbrev SI (PG : Prog) (nm : Nat → Str) (T : Tab) (N : List Str) (k : Nat) (c : CI) : Prop := ∀ (X : Cx) (sc : Scope) (blk : Bool) (B : Bs) (W : WX) (tg : Tg), Cxt X PG nm T N sc k → L2.Takes X W → okI PG nm N sc blk tg c = true →
  PI X tg.up c.up (tI T X.K B W (evI PG (cal PG k) c))
theorem sT_ife {X : Cx} {B : Bs} {W : WX} {t a b : Expr} {ct ca cb : S → Oc R} {p : Pos} (ht : PT X t (tT T X.K B W fun s => asB (ct s))) (ha : PT X a (tT T X.K B W fun s => asB (ca s))) (hb : PT X b (tT T X.K B W fun s => asB (cb s))) :
    PT X (.IfExp t a b p) (tT T X.K B W fun s => asB ((asB (ct s)).bind fun t s1 => if t = true then ca s1 else cb s1)) := by
  refine ⟨fun pins s σ H Q I q => ?_⟩
  have q : (tT T X.K B W fun s => asB (ct s)) σ H fun c H1 => if c = true then (tT T X.K B W fun s => asB (ca s)) σ H1 Q else (tT T X.K B W fun s => asB (cb s)) σ H1 Q := by
    obtain ⟨G, s', hR, q⟩ := q
    dsimp only at q
    rw [asB_bind2] at q
    refine ⟨G, s', hR, at_bind q (.refl _ _ _ _) fun t s1 G1 H1 b st z1 R1 p1 q1 => ?_⟩
    cases (show b = t from p1)
    cases t with
    | true => exact ⟨G1, s1, R1, at_tail back_B q1 z1⟩
    | false => exact ⟨G1, s1, R1, at_tail back_B q1 z1⟩
  show wpAny _ _ (do if ← isTrue t X.env (eval t X.env) then isTrue a X.env (eval a X.env) else isTrue b X.env (eval b X.env)) _ _ _
  refine wpAny_bind (thn (ht.run pins s σ H _ I q) fun d s1 ⟨H1, I1, q1⟩ => ?_)
  cases d with
  | true => exact ha.run pins s1 σ H1 Q I1 q1
  | false => exact hb.run pins s1 σ H1 Q I1 q1
/-- a comprehension over a locked thing -/
theorem lclRead (elt : C) (tg : Tg) (w : Wk) (c : C) (pa pc : Pos) (ifs : CL) (scope : Scope) (own : List (Str × Nat)) (p : Pos) (X : Cx) (sc : Scope) (blk : Bool) (B : Bs) (W : WX) (h : Cxt X PG nm T N sc k) (tk : L2.Takes X W) (o : okC PG nm N sc blk (.lcl elt tg w c pa pc ifs scope own p) = true)
    (hC : SE PG nm T N k c) (hL : SL PG nm T N k ifs) (hE : SE PG nm T N k elt) :
    PI X tg.up (wkUp w c.up pa pc) (tI T X.K B W fun s => (ev PG (cal PG k) c s).bind fun r s1 => opt (wkR w r s1) s1) ∧ BlkOk X.N X.env.scope scope own ∧
    (∀ (s : Shared) (H : Hp) (C : Addr) (cl : List (Str × Addr)) (fp : List Addr), L2.PG (X.blk s H scope (compEnvC scope cl C X.env) fp) tg.up (tTg T X.K tg)) ∧
    (∀ (s : Shared) (H : Hp) (C : Addr) (cl : List (Str × Addr)) (fp : List Addr), PTs (X.blk s H scope (compEnvC scope cl C X.env) fp) ifs.up (tT T X.K B W0 (evIfs PG (cal PG k) ifs))) ∧
    (∀ (s : Shared) (H : Hp) (C : Addr) (cl : List (Str × Addr)) (fp : List Addr), PE (X.blk s H scope (compEnvC scope cl C X.env) fp) elt.up (tE T X.K B W0 (ev PG (cal PG k) elt))) ∧
    ∀ σ H Q, (tE T X.K B W fun s => ((ev PG (cal PG k) c s).bind fun r s1 => opt (wkR w r s1) s1).bind fun l s1 => (lcTurns (lcTurn tg (evIfs PG (cal PG k) ifs) (ev PG (cal PG k) elt) (own.map (·.2))) l [] (BB.wipeE s1 (own.map (·.2)))).bind fun ys s2 => .ok (.fl ys) s2) σ H Q →
      tLc (tI T X.K B W fun s => (ev PG (cal PG k) c s).bind fun r s1 => opt (wkR w r s1) s1) (tTg T X.K tg) (tT T X.K B W0 (evIfs PG (cal PG k) ifs)) (tE T X.K B W0 (ev PG (cal PG k) elt)) (own.map (·.2)) σ H Q := by
  obtain ⟨o, o8⟩ := a2 (show (okC PG nm N sc blk c && blkC N sc scope own && okTgB N scope sc tg && (tgIx tg).all (fun i => decide (i ∈ own.map (·.2))) && okL PG nm N (relS scope sc) true ifs && okC PG nm N (relS scope sc) true elt && decide (ifs.len ≤ 1) && okWk sc w tg pa pc) = true from o)
  obtain ⟨o, o7⟩ := a2 o
  obtain ⟨o, o6⟩ := a2 o
  obtain ⟨o1, o2, o3, o4, o5⟩ := a5 o
  have hc := (hC X sc blk B W h tk o1).1
  have ok : BlkOk X.N X.env.scope scope own := by rw [h.N, h.sc]; exact blkOk_by o2
  have hg : ∀ (s : Shared) (H : Hp) (C : Addr) (cl : List (Str × Addr)) (fp : List Addr), TgOk (X.blk s H scope (compEnvC scope cl C X.env) fp) tg := fun s H C cl fp => tg_ofB (h.blk s H scope C cl fp) o3
  have ht : ∀ (s : Shared) (H : Hp) (C : Addr) (cl : List (Str × Addr)) (fp : List Addr), PTs (X.blk s H scope (compEnvC scope cl C X.env) fp) ifs.up (tT T X.K B W0 (evIfs PG (cal PG k) ifs)) := fun s H C cl fp =>
    (hL (X.blk s H scope (compEnvC scope cl C X.env) fp) (relS scope sc) true B W0 (h.blk s H scope C cl fp) takes0 o5).2.1 (of_decide_eq_true o7)
  have he : ∀ (s : Shared) (H : Hp) (C : Addr) (cl : List (Str × Addr)) (fp : List Addr), PE (X.blk s H scope (compEnvC scope cl C X.env) fp) elt.up (tE T X.K B W0 (ev PG (cal PG k) elt)) := fun s H C cl fp =>
    (hE (X.blk s H scope (compEnvC scope cl C X.env) fp) (relS scope sc) true B W0 (h.blk s H scope C cl fp) takes0 o6).1
  have hx : ∀ i ∈ tgIx tg, i ∈ own.map (·.2) := fun i hi => of_decide_eq_true (List.all_eq_true.mp o4 i hi)
  have hpg : ∀ (s : Shared) (H : Hp) (C : Addr) (cl : List (Str × Addr)) (fp : List Addr), L2.PG (X.blk s H scope (compEnvC scope cl C X.env) fp) tg.up (tTg T X.K tg) := fun s H C cl fp => pg_tg (X := X.blk s H scope (compEnvC scope cl C X.env) fp) (T := T) h.calm h.nd (hg s H C cl fp)
  have hi : PI X tg.up (wkUp w c.up pa pc) (tI T X.K B W fun s => (ev PG (cal PG k) c s).bind fun r s1 => opt (wkR w r s1) s1) := by
    cases tg with
    | nm i x q =>
      refine sI_lk (l := []) (k := 0) (pt := default) (fun z => ?_) (fun z => ?_) hc (base_of c _ _ o1) (base_of c _ _ o1) fun z => ?_
      · rcases z with rfl | rfl <;> cases o8
      · subst z; cases o8
      · rcases z with rfl | rfl
        · exact o8
        · cases o8
    | tp l j q =>
      refine sI_lk (l := l) (k := j) (pt := q) (fun z => rfl) (fun z => by subst z; exact ⟨(gl_of h (a2 (show (isTp (.tp l j q) && okGl sc "enumerate") = true from o8)).2).1, h.mg.enu, nostar c _ _⟩) hc (base_of c _ _ o1) (base_of c _ _ o1) fun z => ?_
      rcases z with rfl | rfl
      · exact o8
      · exact (a2 (show (isTp (.tp l j q) && (pa.endLine == pc.line)) = true from o8)).2
  exact ⟨hi, ok, hpg, ht, he, sE_lc (p := p) h.calm h.nd hi ok hg hx ht he (foldW_of w c pa pc _)⟩
/-- a comprehension's reading -/
theorem lcRead (elt : C) (tg : Tg) (it : CI) (ifs : CL) (scope : Scope) (own : List (Str × Nat)) (p : Pos) (X : Cx) (sc : Scope) (blk : Bool) (B : Bs) (W : WX) (h : Cxt X PG nm T N sc k) (tk : L2.Takes X W) (o : okC PG nm N sc blk (.lc elt tg it ifs scope own p) = true)
    (hI : SI PG nm T N k it) (hL : SL PG nm T N k ifs) (hE : SE PG nm T N k elt) :
    PE X (C.lc elt tg it ifs scope own p).up (tLc (tI T X.K B W (evI PG (cal PG k) it)) (tTg T X.K tg) (tT T X.K B W0 (evIfs PG (cal PG k) ifs)) (tE T X.K B W0 (ev PG (cal PG k) elt)) (own.map (·.2))) ∧
    ∀ σ H Q, tE T X.K B W (ev PG (cal PG k) (.lc elt tg it ifs scope own p)) σ H Q → tLc (tI T X.K B W (evI PG (cal PG k) it)) (tTg T X.K tg) (tT T X.K B W0 (evIfs PG (cal PG k) ifs)) (tE T X.K B W0 (ev PG (cal PG k) elt)) (own.map (·.2)) σ H Q := by
  obtain ⟨o, o7⟩ := a2 (show (okI PG nm N sc blk tg it && blkC N sc scope own && okTgB N scope sc tg && (tgIx tg).all (fun i => decide (i ∈ own.map (·.2))) && okL PG nm N (relS scope sc) true ifs && okC PG nm N (relS scope sc) true elt && decide (ifs.len ≤ 1)) = true from o)
  obtain ⟨o, o6⟩ := a2 o
  obtain ⟨o1, o2, o3, o4, o5⟩ := a5 o
  have hi := hI X sc blk B W tg h tk o1
  have ok : BlkOk X.N X.env.scope scope own := by rw [h.N, h.sc]; exact blkOk_by o2
  have hg : ∀ (s : Shared) (H : Hp) (C : Addr) (cl : List (Str × Addr)) (fp : List Addr), TgOk (X.blk s H scope (compEnvC scope cl C X.env) fp) tg := fun s H C cl fp => tg_ofB (h.blk s H scope C cl fp) o3
  have ht : ∀ (s : Shared) (H : Hp) (C : Addr) (cl : List (Str × Addr)) (fp : List Addr), PTs (X.blk s H scope (compEnvC scope cl C X.env) fp) ifs.up (tT T X.K B W0 (evIfs PG (cal PG k) ifs)) := fun s H C cl fp =>
    (hL (X.blk s H scope (compEnvC scope cl C X.env) fp) (relS scope sc) true B W0 (h.blk s H scope C cl fp) takes0 o5).2.1 (of_decide_eq_true o7)
  have he : ∀ (s : Shared) (H : Hp) (C : Addr) (cl : List (Str × Addr)) (fp : List Addr), PE (X.blk s H scope (compEnvC scope cl C X.env) fp) elt.up (tE T X.K B W0 (ev PG (cal PG k) elt)) := fun s H C cl fp =>
    (hE (X.blk s H scope (compEnvC scope cl C X.env) fp) (relS scope sc) true B W0 (h.blk s H scope C cl fp) takes0 o6).1
  have hx : ∀ i ∈ tgIx tg, i ∈ own.map (·.2) := fun i hi => of_decide_eq_true (List.all_eq_true.mp o4 i hi)
  have hpg : ∀ (s : Shared) (H : Hp) (C : Addr) (cl : List (Str × Addr)) (fp : List Addr), L2.PG (X.blk s H scope (compEnvC scope cl C X.env) fp) tg.up (tTg T X.K tg) := fun s H C cl fp => pg_tg (X := X.blk s H scope (compEnvC scope cl C X.env) fp) (T := T) h.calm h.nd (hg s H C cl fp)
  exact ⟨pe_lc h.calm h.nd hi ok hpg ht he (fold_of it _), sE_lc (p := p) h.calm h.nd hi ok hg hx ht he (fold_of it _)⟩
mutual
theorem snd : ∀ c : C, SE PG nm T N k c
  | .bx c => fun X sc blk B W h tk o => se_val (a2 o).2 (sE_bx (snd c X sc blk B W h tk (a2 o).1).1)
  | .dnw t p => fun X sc blk B W h tk o => se_val rfl sE_dnw
  | .fld r f p => fun X sc blk B W h tk o => se_val rfl (sE_fld (h.mg.own.fld f) (snd r X sc blk B W h tk o).1 (base_of r _ _ o))
  | .meth r m pa .nil p => fun X sc blk B W h tk o => se_val rfl (by
      obtain ⟨o1, o2, o3, o4⟩ := a4 o
      obtain ⟨pl, hev⟩ := meth_ev (o := r.up) m [] pa p X.env (base_of r _ _ o1) (form_of p X.env .nil (by decide)) o4
      exact sE_meth0 h.F (h.room.mono (by omega)) tk (h.mg.own.mth m) (snd r X sc blk B W h tk o1).1 hev)
  | .meth r m pa (.cons e es) p => fun X sc blk B W h tk o => se_val rfl (by
      obtain ⟨o1, o2, o3, o4⟩ := a4 o
      obtain ⟨pl, hev⟩ := meth_ev (o := r.up) m (e.up :: es.up) pa p X.env (base_of r _ _ o1) (form_of p X.env (.cons e es) (of_decide_eq_true o3)) o4
      exact sE_meth h.F (h.room.mono (by omega)) tk (h.mg.own.mth m) (snd r X sc blk B W h tk o1).1 (sndL (.cons e es) X sc blk B W h tk o2).1 (nostar e _ _) (plainL p _ es) hev)
  | .dpop1 r a pa p => fun X sc blk B W h tk o => se_val rfl (by
      obtain ⟨o1, o2, o4⟩ := a3 o
      refine sE_dpop1 (snd r X sc blk B W h tk o1).1 (snd a X sc blk B W h tk o2).1 ⟨base_of r _ _ o1, few_of p _ a .nil (by show 0 + 1 < 29; decide), o4, ?_⟩
      rw [nostar a [] X.env]
      rfl)
  | .dpop2 r a b pa p => fun X sc blk B W h tk o => se_val rfl (by
      obtain ⟨o1, o2, o3, o4⟩ := a4 o
      refine sE_dpop2 (snd r X sc blk B W h tk o1).1 (snd a X sc blk B W h tk o2).1 (snd b X sc blk B W h tk o3).1 ⟨base_of r _ _ o1, few_of p _ a (.cons b .nil) (by show 0 + 1 + 1 < 29; decide), o4, ?_⟩
      have e1 := nostar a [b.up] X.env
      have e2 := nostar b [] X.env
      rw [e2] at e1
      rw [e1]
      rfl)
  | .dctp c px p => fun X sc blk B W h tk o => se_val rfl (by
      obtain ⟨o1, o2⟩ := a2 o
      exact sE_dctp h.calm (gl_of h o1).1 (h.mg.ty "dict" (by decide)) (snd c X sc blk B W h tk o2).1 (nostar c _ _))
  | .inb c px p => fun X sc blk B W h tk o => se_val rfl (by
      obtain ⟨o1, o2⟩ := a2 o
      exact sE_inb (gl_of h o1).1 (h.mg.bi .int) (snd c X sc blk B W h tk o2).1 (nostar c _ _))
  | .dctt c px p => fun X sc blk B W h tk o => se_val rfl (by
      obtain ⟨o1, o2⟩ := a2 o
      have hr := h.room
      exact sE_dctt (by have := h.hu; show X.A.units + 1 + 1 < cLine; omega) h.calm (gl_of h o1).1 (h.mg.ty "dict" (by decide)) (snd c X sc blk B W h tk o2).1 (nostar c _ _))
  | .lset c px p2 q p => fun X sc blk B W h tk o => se_val rfl (by
      obtain ⟨o1, o2, o3⟩ := a3 o
      exact sE_lset h.calm (gl_of h o1).1 (h.mg.bi .len) (gl_of h o2).1 (h.mg.bi .set) (snd c X sc blk B W h tk o3).1 (nostar c _ _))
  | .lkeys c px p => fun X sc blk B W h tk o => se_val rfl (by
      obtain ⟨o1, o2⟩ := a2 o
      exact sE_lkeys h.calm (gl_of h o1).1 (h.mg.ty "list" (by decide)) (snd c X sc blk B W h tk o2).1 (nostar c _ _))
  | .mtd r m pa a p => fun X sc blk B W h tk o => se_val rfl (by
      obtain ⟨o1, o2, o4⟩ := a3 o
      obtain ⟨pl, hev⟩ := meth_ev (o := r.up) m [a.up] pa p X.env (base_of r _ _ o1) (form_of p X.env (.cons a .nil) (show (1 : Nat) < 29 by decide)) o4
      exact sE_mtd h.F (h.room.mono (by omega)) tk (h.mg.own.mth m) (snd r X sc blk B W h tk o1).1 (snd a X sc blk B W h tk o2).1 (nostar a _ _) hev)
  | .mtk r m pa a kw pk b p => fun X sc blk B W h tk o => se_val rfl (by
      obtain ⟨o1, o2, o3, o4⟩ := a4 o
      obtain ⟨pl, hev⟩ := meth_evk (o := r.up) m a.up b.up kw pk pa p X.env (base_of r _ _ o1) (form_k p X.env a kw b pk) o4
      exact sE_mtk h.F (h.room.mono (by omega)) tk (h.mg.own.mth m) (snd r X sc blk B W h tk o1).1 (snd a X sc blk B W h tk o2).1 (snd b X sc blk B W h tk o3).1 (nostar a _ _) hev)
  | .new c x px (.cons e es) p => fun X sc blk B W h tk o => se_val rfl (by
      obtain ⟨o1, o2, o3, o4, o5⟩ := a5 o
      obtain ⟨g1, g2, g3⟩ := gl_of h o1
      obtain ⟨n, hn⟩ := Option.isSome_iff_exists.mp o3
      obtain ⟨M, f, hf⟩ := h.mg.own.ini c n hn
      exact sE_new h.F h.room tk hn M hf g1 (h.mg.own.at_ c x (of_decide_eq_true o2)) g2 (sndL (.cons e es) X sc blk B W h tk o4).1 (nostar e _ _) (plainL p _ es))
  | .new c x px .nil p => fun X sc blk B W h tk o => absurd (of_decide_eq_true (a5 o).2.2.2.2) (by decide)
  | .pop r .no pa p => fun X sc blk B W h tk o => se_val rfl (by
      obtain ⟨o1, o2, o3⟩ := a3 o
      exact sE_pop0 (snd r X sc blk B W h tk o1).1 (base_of r _ _ o1) o3)
  | .pop r (.so e) pa p => fun X sc blk B W h tk o => se_val rfl (by
      obtain ⟨o1, o2, o3⟩ := a3 o
      exact sE_popi (snd r X sc blk B W h tk o1).1 (snd e X sc blk B W h tk o2).1 (base_of r _ _ o1) (nostar e _ _) o3)
  | .srt n c px p => fun X sc blk B W h tk o => se_val rfl (by
      obtain ⟨o1, o2⟩ := a2 o
      exact sE_srt h.calm (gl_of h o1).1 (h.mg.bi .sorted) (snd c X sc blk B W h tk o2).1 (nostar c _ _))
  | .srti c pa pc px p => fun X sc blk B W h tk o => se_val rfl (by
      obtain ⟨o1, o2, o3⟩ := a3 o
      exact sE_srti h.calm (gl_of h o1).1 (h.mg.bi .sorted) (snd c X sc blk B W h tk o2).1 (base_of c _ _ o2) o3)
  | .srtk kk c n x pk pv px p => fun X sc blk B W h tk o => se_val rfl (by
      obtain ⟨o1, o2, o3, o4, o5⟩ := a5 o
      obtain ⟨g1, g2, g3⟩ := gl_of h o3
      have o4 : nm n = x ∧ x ≠ "" := of_decide_eq_true o4
      have o5 : (PG.fns[n]?).map (·.ps) = some 1 := of_decide_eq_true o5
      obtain ⟨f, hf⟩ : ∃ f, PG.fns[n]? = some f := by
        cases e : PG.fns[n]? with
        | none => rw [e] at o5; cases o5
        | some f => exact ⟨f, rfl⟩
      have m := h.mg.fn n (by rw [hf]; rfl) (by rw [o4.1]; exact o4.2)
      rw [o4.1] at m
      obtain ⟨fd, ps, hp, ok, bd, _⟩ := h.F.fn n f hf
      rw [hf] at o5
      exact sE_srtk ⟨f, fd, ps, hf, (Option.some.inj o5).symm, ok, bd.b⟩ h.room (gl_of h o1).1 (h.mg.bi .sorted) g1 m g2 (snd c X sc blk B W h tk o2).1 (nostar c _ _))
  | .xfl .. => fun X sc blk B W h tk o => absurd (show false = true from o) (by decide)
  | .lcl elt tg w c pa pc ifs scope own p => fun X sc blk B W h tk o => se_val rfl (by
      obtain ⟨hi, ok, hpg, ht, he, cv⟩ := lclRead elt tg w c pa pc ifs scope own p X sc blk B W h tk o (snd c) (sndL ifs) (snd elt)
      exact sE_lcl (pe_lc h.calm h.nd hi ok hpg ht he (foldW_of w c pa pc _)) cv)
  | .var i x p => fun X sc blk B W h tk o => se_val rfl (sE_var (var_of h o))
  | .fz i x p => fun X sc blk B W h tk o => se_val rfl (sE_fz (var_of h o))
  | .mv i x p => fun X sc blk B W h tk o => se_val rfl (sE_mv (var_of h o))
  | .cint n j p => fun X sc blk B W h tk o => se_val rfl (sE_val pe_int fun _ _ => .int n)
  | .cbl n j p => fun X sc blk B W h tk o => se_val rfl (sE_val pe_bl fun _ _ => .bl n)
  | .cnon j p => fun X sc blk B W h tk o => se_val rfl (sE_val pe_non fun _ _ => .non)
  | .cstr n j p => fun X sc blk B W h tk o => se_val rfl (sE_val pe_str fun _ _ => .str n)
  | .glo n x p => fun X sc blk B W h tk o => se_val rfl (by
      obtain ⟨o1, o2⟩ := a2 o
      obtain ⟨g1, g2, g3⟩ := gl_of h o1
      cases e : PG.cst[n]? with
      | none => rw [e] at o2; cases o2
      | some y =>
        obtain ⟨y, d⟩ := y
        rw [e] at o2
        have o2 : x = y := of_decide_eq_true o2
        subst o2
        obtain ⟨u, v, m1, m2, m3⟩ := h.mg.cst n x d e
        have z := sE_val (T := T) (B := B) (W := W) (pe_glob (pos := p) g1 m1 m2 g2) m3
        refine pe_imp z fun σ H Q ⟨G, s, hR, q⟩ => ⟨G, s, hR, ?_⟩
        have q : At T X.K B W (PR T X.K B) (match PG.cst[n]? with
          | some (_, d) => Oc.ok (R.va d) s
          | none => .bad) G s σ H Q := q
        rw [e] at q
        exact q)
  | .bty n x p => fun X sc blk B W h tk o => se_val rfl (by
      obtain ⟨o1, o2, o3⟩ := a3 o
      obtain ⟨g1, g2, g3⟩ := gl_of h o1
      have o2 := of_decide_eq_true o2
      have o3 : x = Str.ofString n := of_decide_eq_true o3
      subst o3
      exact sE_val (pe_bltn g1 (h.mg.ty n o2) (boot_ty o2) (v := .ty n) rfl g3 g2) fun _ _ => .ty n)
  | .tup es j p => fun X sc blk B W h tk o => se_val rfl (sE_tup (sndL es X sc blk B W h tk o).1)
  | .lst es p => fun X sc blk B W h tk o => se_val rfl (sE_lst (sndL es X sc blk B W h tk o).1)
  | .dct ps p => fun X sc blk B W h tk o => se_val rfl (by
      obtain ⟨o1, o2, o3⟩ := a3 o
      have o2 := of_decide_eq_true o2
      have o3 := of_decide_eq_true o3
      refine sE_dct (sndP ps X sc blk B W p h tk o1) (upK_all ps) ((upK_len ps).trans (upV_len ps).symm) (fun z => ?_) (by rw [upK_len]; exact o3)
      have := upK_len ps
      rw [z] at this
      simp at this
      omega)
  | .bin op a b p => fun X sc blk B W h tk o => se_val rfl (sE_bin (snd a X sc blk B W h tk (a2 o).1).1 (snd b X sc blk B W h tk (a2 o).2).1)
  | .un op a p => fun X sc blk B W h tk o => by
      obtain ⟨o1, o2⟩ := a2 o
      have z : PE X (C.un op a p).up (tE T X.K B W (ev PG (cal PG k) (.un op a p))) := sE_un (p := p) (snd a X sc blk B W h tk o2).1
      cases op <;> first | (cases o1; done) | exact ⟨z, sT_val z fun _ => rfl⟩
  | .cmp op a b p => fun X sc blk B W h tk o => ⟨sE_cmp h.hu (mark_of op b) (snd a X sc blk B W h tk (a2 o).1).1 (snd b X sc blk B W h tk (a2 o).2).1, sT_cmp h.hu (mark_of op b) (snd a X sc blk B W h tk (a2 o).1).1 (snd b X sc blk B W h tk (a2 o).2).1⟩
  | .chain op op' a b c p => fun X sc blk B W h tk o => ⟨sE_chain h.hu (marks_of op op' b c) (snd a X sc blk B W h tk (a3 o).1).1 (snd b X sc blk B W h tk (a3 o).2.1).1 (snd c X sc blk B W h tk (a3 o).2.2).1,
      sT_chain h.hu (marks_of op op' b c) (snd a X sc blk B W h tk (a3 o).1).1 (snd b X sc blk B W h tk (a3 o).2.1).1 (snd c X sc blk B W h tk (a3 o).2.2).1⟩
  | .and_ a (.cons b bs) p => fun X sc blk B W h tk o => by
      obtain ⟨o1, o2, o3⟩ := a3 o
      have ha := snd a X sc blk B W h tk o1
      have hb := ((sndL (.cons b bs) X sc blk B W h tk o2).2.2 (of_decide_eq_true o3) p).1
      exact ⟨sE_and ha.1 hb.1, (sW_and ha.2 hb.2).pt⟩
  | .and_ a .nil p => fun X sc blk B W h tk o => absurd (of_decide_eq_true (a3 o).2.2) (by decide)
  | .or_ a (.cons b bs) p => fun X sc blk B W h tk o => by
      obtain ⟨o1, o2, o3⟩ := a3 o
      have ha := snd a X sc blk B W h tk o1
      have hb := ((sndL (.cons b bs) X sc blk B W h tk o2).2.2 (of_decide_eq_true o3) p).2
      exact ⟨sE_or ha.1 hb.1, (sW_or ha.2 hb.2).pt⟩
  | .or_ a .nil p => fun X sc blk B W h tk o => absurd (of_decide_eq_true (a3 o).2.2) (by decide)
  | .not_ a p => fun X sc blk B W h tk o => ⟨sE_not (snd a X sc blk B W h tk o).1, sT_not (snd a X sc blk B W h tk o).2⟩
  | .ife t a b p => fun X sc blk B W h tk o => by
      obtain ⟨o1, o2, o3⟩ := a3 o
      have ht := snd t X sc blk B W h tk o1
      have ha := snd a X sc blk B W h tk o2
      have hb := snd b X sc blk B W h tk o3
      exact ⟨sE_ife ht.2 ha.1 hb.1, sT_ife ht.2 ha.2 hb.2⟩
  | .call n x px (.cons e es) p => fun X sc blk B W h tk o => se_val rfl (by
      obtain ⟨o1, o2, o3, o4, o5⟩ := a5 o
      obtain ⟨g1, g2, g3⟩ := gl_of h o1
      have o2 : nm n = x ∧ x ≠ "" := of_decide_eq_true o2
      have m := h.mg.fn n o3 (by rw [o2.1]; exact o2.2)
      rw [o2.1] at m
      exact sE_call h.F (h.room.mono (by omega)) tk g1 m g2 (sndL (.cons e es) X sc blk B W h tk o4).1 (nostar e _ _) (plainL p _ es) (Option.isSome_iff_exists.mp o3))
  | .call n x px .nil p => fun X sc blk B W h tk o => absurd (of_decide_eq_true (a5 o).2.2.2.2) (by decide)
  | .bi b px (.cons e es) p => fun X sc blk B W h tk o => se_val rfl (by
      obtain ⟨o1, o2, o3⟩ := a3 o
      exact sE_bi h.calm (gl_of h o1).1 (h.mg.bi b) (sndL (.cons e es) X sc blk B W h tk o2).1 (nostar e _ _) (plainL p _ es))
  | .bi b px .nil p => fun X sc blk B W h tk o => absurd (of_decide_eq_true (a3 o).2.2) (by decide)
  | .mt m r pa (.cons e es) p => fun X sc blk B W h tk o => se_val rfl (by
      obtain ⟨o1, o2, o3, o4, o5⟩ := a5 o
      have o3 : es.len + 1 < 28 := of_decide_eq_true o3
      exact sE_mt (of_decide_eq_true o5) (snd r X sc blk B W h tk o1).1 (sndL (.cons e es) X sc blk B W h tk o2).1 (base_of r _ _ o1) (nostar e _ _) (plainL p _ es) (few_of p _ e es (by omega)) o4)
  | .mt m r pa .nil p => fun X sc blk B W h tk o => se_val rfl (by
      obtain ⟨o1, o2, o3, o4, o5⟩ := a5 o
      exact sE_mt0 (of_decide_eq_true o5) (snd r X sc blk B W h tk o1).1 (base_of r _ _ o1) o4)
  | .get1 r a pa p => fun X sc blk B W h tk o => se_val rfl (by
      obtain ⟨o1, o2, o4⟩ := a3 o
      have hu := h.hu
      refine sE_get1 (by omega) (snd r X sc blk B W h tk o1).1 (snd a X sc blk B W h tk o2).1 ⟨base_of r _ _ o1, few_of p _ a .nil (by show 0 + 1 < 29; decide), o4, ?_⟩
      rw [nostar a [] X.env]
      rfl)
  | .setd r a b pa p => fun X sc blk B W h tk o => se_val rfl (by
      obtain ⟨o1, o2, o3, o4⟩ := a4 o
      have hu := h.hu
      refine sE_setd (by omega) (snd r X sc blk B W h tk o1).1 (snd a X sc blk B W h tk o2).1 (snd b X sc blk B W h tk o3).1 ⟨base_of r _ _ o1, few_of p _ a (.cons b .nil) (by show 0 + 1 + 1 < 29; decide), o4, ?_⟩
      have e1 := nostar a [b.up] X.env
      have e2 := nostar b [] X.env
      rw [e2] at e1
      rw [e1]
      rfl)
  | .get2 r a b pa p => fun X sc blk B W h tk o => se_val rfl (by
      obtain ⟨o1, o2, o3, o4⟩ := a4 o
      have hu := h.hu
      refine sE_get2 (by omega) (snd r X sc blk B W h tk o1).1 (snd a X sc blk B W h tk o2).1 (snd b X sc blk B W h tk o3).1 ⟨base_of r _ _ o1, few_of p _ a (.cons b .nil) (by show 0 + 1 + 1 < 29; decide), o4, ?_⟩
      have e1 := nostar a [b.up] X.env
      have e2 := nostar b [] X.env
      rw [e2] at e1
      rw [e1]
      rfl)
  | .ix a b p => fun X sc blk B W h tk o => se_val rfl (sE_ix (snd a X sc blk B W h tk (a2 o).1).1 (snd b X sc blk B W h tk (a2 o).2).1 (plainIx_of b))
  | .dix a b p => fun X sc blk B W h tk o => se_val rfl (by
      have hu := h.hu
      exact sE_dix (by omega) (snd a X sc blk B W h tk (a2 o).1).1 (snd b X sc blk B W h tk (a2 o).2).1 (noSl_of b))
  | .din n a b p => fun X sc blk B W h tk o => ⟨by
      have hu := h.hu
      exact sE_din (by omega) (snd a X sc blk B W h tk (a2 o).1).1 (snd b X sc blk B W h tk (a2 o).2).1 (mark_of _ b), by
      have hu := h.hu
      exact sT_din (by omega) (snd a X sc blk B W h tk (a2 o).1).1 (snd b X sc blk B W h tk (a2 o).2).1 (mark_of _ b)⟩
  | .sl a lo hi ps p => fun X sc blk B W h tk o => se_val rfl (by
      obtain ⟨o1, o2, o3⟩ := a3 o
      exact sE_sl (snd a X sc blk B W h tk o1).1 (sndO lo X sc blk B W h tk o2) (sndO hi X sc blk B W h tk o3))
  | .rvt a k' q1 q2 q3 p => fun X sc blk B W h tk o => se_val rfl (sE_rvt (snd a X sc blk B W h tk o).1)
  | .fnv n x p => fun X sc blk B W h tk o => se_val rfl (by
      obtain ⟨o1, o2, o3⟩ := a3 o
      obtain ⟨g1, g2, g3⟩ := gl_of h o1
      have o2 : nm n = x ∧ x ≠ "" := of_decide_eq_true o2
      have m := h.mg.fn n o3 (by rw [o2.1]; exact o2.2)
      rw [o2.1] at m
      exact sE_val (pe_glob (v := .ref (T.f n)) g1 m rfl g2) fun _ _ => .fn n)
  | .calv i x px (.cons e es) p => fun X sc blk B W h tk o => se_val rfl (by
      obtain ⟨o1, o2, o3⟩ := a3 o
      exact sE_calv h.F (h.room.mono (by omega)) tk (var_of h o1) (sndL (.cons e es) X sc blk B W h tk o2).1 (nostar e _ _) (plainL p _ es))
  | .calv i x px .nil p => fun X sc blk B W h tk o => absurd (of_decide_eq_true (a3 o).2.2) (by decide)
  | .isx i x px pf n y py p => fun X sc blk B W h tk o => absurd (show false = true from o) (by decide)
  | .isxb i x px pf y py p => fun X sc blk B W h tk o => absurd (show false = true from o) (by decide)
  | .isxt i x px pf l j pt p => fun X sc blk B W h tk o => absurd (show false = true from o) (by decide)
  | .hcal n f pf i x px p => fun X sc blk B W h tk o => absurd (show false = true from o) (by decide)
  | .lme b r a pa p => fun X sc blk B W h tk o => se_val rfl (by
      obtain ⟨o1, o2, o3⟩ := a3 o
      exact sE_lme (snd r X sc blk B W h tk o1).1 (snd a X sc blk B W h tk o2).1 (fun n => base_of r _ _ o1) (nostar a _ _) o3)
  | .lc elt tg it ifs scope own p => fun X sc blk B W h tk o => se_val rfl (by
      have L := lcRead elt tg it ifs scope own p X sc blk B W h tk o (sndI it) (sndL ifs) (snd elt)
      exact pe_imp L.1 L.2)
theorem sndL : ∀ cs : CL, SL PG nm T N k cs
  | .nil => fun X sc blk B W h tk o => ⟨sL_nil, fun _ => pts_imp pts_nil fun σ H Q ⟨G, s, hR, q⟩ => q G H true (.refl _ _ _ _) hR rfl, fun z => absurd z (by decide)⟩
  | .cons c .nil => fun X sc blk B W h tk o => by
      have hc := snd c X sc blk B W h tk (a2 o).1
      refine ⟨sL_cons hc.1 sL_nil (nostar c _ _), fun _ => pts_one hc.2, fun _ p => ⟨⟨pe_one hc.1, pw_and1 hc.2⟩, ⟨pe_one hc.1, pw_or1 hc.2⟩⟩⟩
  | .cons c (.cons d ds) => fun X sc blk B W h tk o => by
      have hc := snd c X sc blk B W h tk (a2 o).1
      have hd := sndL (.cons d ds) X sc blk B W h tk (a2 o).2
      refine ⟨sL_cons hc.1 hd.1 (nostar c _ _), fun z => absurd z (by simp [CL.len]), fun _ p => ?_⟩
      have r := hd.2.2 (by simp [CL.len]) p
      exact ⟨⟨sE_and hc.1 r.1.1, sW_and hc.2 r.1.2⟩, ⟨sE_or hc.1 r.2.1, sW_or hc.2 r.2.2⟩⟩
theorem sndO : ∀ (c : CO) (X : Cx) (sc : Scope) (blk : Bool) (B : Bs) (W : WX), Cxt X PG nm T N sc k → L2.Takes X W → okO PG nm N sc blk c = true → PO X c.up (tO (T := T) (B := B) (W := W) (X := X) (evO PG (cal PG k) c))
  | .no => fun X sc blk B W h tk o => sO_no
  | .so c => fun X sc blk B W h tk o => sO_so (snd c X sc blk B W h tk o).1
theorem sndI : ∀ (c : CI), SI PG nm T N k c
  | .sq c => fun X sc blk B W tg h tk o => sI_sq (snd c X sc blk B W h tk o).1
  | .rng1 a px p => fun X sc blk B W tg h tk o => sI_rng1 (gl_of h (a2 o).1).1 h.mg.rng (snd a X sc blk B W h tk (a2 o).2).1 (nostar a _ _)
  | .rng2 a b px p => fun X sc blk B W tg h tk o => absurd (show false = true from o) (by decide)
  | .enu c px p => fun X sc blk B W tg h tk o => by
      obtain ⟨o1, o2, o3⟩ := a3 o
      cases tg with
      | nm i x q => cases o3
      | tp l j q => exact sI_enu (gl_of h o1).1 h.mg.enu (snd c X sc blk B W h tk o2).1 (nostar c _ _)
  | .zip a b px p => fun X sc blk B W tg h tk o => absurd (show false = true from o) (by decide)
theorem sndP : ∀ (ps : CP) (X : Cx) (sc : Scope) (blk : Bool) (B : Bs) (W : WX) (p : Pos), Cxt X PG nm T N sc k → L2.Takes X W → okP PG nm N sc blk ps = true → PPs X p ps.upK ps.upV (trs T X.K B W PG (cal PG k) ps)
  | .nil => fun X sc blk B W p h tk o => pps_nil
  | .cons a b r => fun X sc blk B W p h tk o => pps_cons (snd a X sc blk B W h tk (a3 o).1).1 (snd b X sc blk B W h tk (a3 o).2.1).1 (sndP r X sc blk B W p h tk (a3 o).2.2)
end
end
end BB

namespace BB
open PySem PySem.Spec PyProof.Rows L2
/-! suites -/
/-- a def called with the caught error alone -/
def tHot (T : Tab) (K : PySem.W.Frag) (PG : Prog) (k n : Nat) (te : TE) : TE := fun σ H Q => te σ H fun v H1 => ∃ (a : Addr) (cls : Value) (d : Option Addr) (G : Gh) (c : Nat) (fs : List (Str × D)) (st : Sto), T.x = some (a, cls, d) ∧ v = .ref a ∧ RelC T K G st H1 ∧ ExR T K c fs cls d G H1 ∧ CAt T K (cal PG k n [.exo c fs] st) G H1 Q (fun _ _ _ => False)
/-- what holds in a suite -/
structure HCxt (X : Cx) (PG : Prog) (nm : Nat → Str) (T : Tab) (N : List Str) (sc : Scope) (k : Nat) (fl : Bool) : Prop where
  N : X.N = N
  sc : X.env.scope = sc
  nd : X.N.Nodup
  hu : X.A.units + 65 < cLine
  cst : ∀ (n : Nat) (x : Str) (d : D), PG.cst[n]? = some (x, d) → ∃ u v, X.mg x = some u ∧ RelV v u ∧ ∀ G H, RV T X.K G H v d
  cls : ∀ (n : Nat) (x : Str), PG.cls[n]? = some x → X.mg x = some (.ref (T.c n))
  sub : ∀ (n m : Nat) (x y : Str), PG.cls[n]? = some x → PG.cls[m]? = some y → PySem.W.kitOne X.K (.ref (T.c n)) (.ref (T.c m)) = some (PG.sub n m)
  xcl : ∀ (n : Nat) (q : Str × Option Nat), PG.xin n = some q → ∃ y, PG.cls[n]? = some y
  isi : X.mg "isinstance" = none
  xf : fl = true → ∀ (a : Addr) (c : Nat) (d : Option Addr) (f : Str) (q : Option Nat) (e : Expr) (te : TE) (p : Pos), T.x = some (a, .ref (T.c c), d) → PG.xin c = some (f, q) → attributeBase e f X.env (eval e X.env) = eval e X.env → PE X e te → (∃ y, PG.cls[c]? = some y) → PE X (.Attribute e f p) (tXf a (.ref (T.c c)) d (T.c c) f te)
  isE : ∀ (a : Addr) (c : Nat) (d : Option Addr) (x : Str), T.x = some (a, .ref (T.c c), d) → PG.cls[c]? = some x → CallR X (.builtin "isinstance") (rIsG X.K (T.c c) a d) ∧ CallR X (.builtin "isinstance") (rIsT X.K (T.c c) a d)
  vle : ∀ (n : Nat) (x : Str), PG.cls[n]? = some x → PySem.W.kitOne X.K (.ref (T.c n)) (.type "ValueError") = some true
  vln : X.mg "ValueError" = none
  iti : X.mg "int" = none
  hc : fl = true → ∀ (n : Nat) (f : FnD) (x : Str) (e : Expr) (te : TE) (pf p : Pos), PG.fns[n]? = none → PG.hfs[n - PG.fns.length]? = some f → nm n = x → x ≠ "" → Gl X x → (x == ("__debug__" : Str)) = false → PE X e te → starEach [e] X.env = (false, eval e X.env) :: starEach [] X.env → PE X (.Call (.Name x pf) [e] [] p) (tHot T X.K PG k n te)
section
variable {X : Cx} {PG : Prog} {nm : Nat → Str} {T : Tab} {N : List Str} {sc : Scope} {k : Nat} {fl : Bool}
theorem HCxt.var (h : HCxt X PG nm T N sc k fl) {i : Nat} {x : Str} {p : Pos} (o : okVar N sc i x = true) : PE X (.Name x p) (tVar i) := by
  unfold okVar at o
  simp only [Bool.and_eq_true, Bool.or_eq_true, Bool.not_eq_true', decide_eq_true_eq] at o
  obtain ⟨⟨⟨o1, o2⟩, o3⟩, o4⟩ := o
  refine pe_var (by rw [h.N]; exact o1) ?_ o3 o4
  unfold Vis
  rw [h.sc]
  rcases o2 with (o2 | o2) | o2
  · exact .inl (kd_of o2)
  · exact .inr (.inl (kd_of o2))
  · exact .inr (.inr (kd_of o2))
theorem HCxt.gl (h : HCxt X PG nm T N sc k fl) {x : Str} (o : okGl sc x = true) : Gl X x ∧ (x == ("__debug__" : Str)) = false ∧ x ≠ "__name__" := by
  unfold okGl at o
  simp only [Bool.and_eq_true, Bool.not_eq_true'] at o
  obtain ⟨⟨o1, o2⟩, o3⟩ := o
  refine ⟨?_, o2, fun z => ?_⟩
  · show X.env.scope.names.lookup x = _
    rw [h.sc]; exact kd_of o1
  · rw [z] at o3; exact absurd o3 (by decide)
theorem HCxt.nmo (h : HCxt X PG nm T N sc k fl) (hf : X.fn = fun _ => true) {i : Nat} {x : Str} (o : okNm N sc false i x = true) : NmOk X i x := by
  unfold okNm at o
  simp only [Bool.and_eq_true, Bool.or_eq_true, Bool.not_eq_true', decide_eq_true_eq] at o
  obtain ⟨o1, o2⟩ := o
  refine ⟨by rw [h.N]; exact o1, ?_⟩
  unfold L2.Loc
  rw [h.sc]
  rcases o2 with o2 | ⟨o2, o3⟩
  · exact ⟨.inl (kd_of o2), .inr (kd_of o2)⟩
  · exact ⟨.inr (kd_of o3), .inl (by rw [hf])⟩
end
abbrev HSE (PG : Prog) (nm : Nat → Str) (T : Tab) (N : List Str) (k : Nat) (fl : Bool) (c : C) : Prop := ∀ (X : Cx) (sc : Scope) (B : Bs) (W : WX), HCxt X PG nm T N sc k fl → hokC PG nm N fl sc c = true →
  PE X c.up (tE T X.K B W (ev PG (cal PG k) c)) ∧ PT X c.up (tT T X.K B W fun s => asB (ev PG (cal PG k) c s))
section
variable {PG : Prog} {nm : Nat → Str} {T : Tab} {N : List Str} {k : Nat} {fl : Bool}
theorem ExR.xd {K : PySem.W.Frag} {c : Nat} {fs : List (Str × D)} {cls : Value} {d : Option Addr} {G : Gh} {H : Hp} (h : ExR T K c fs cls d G H) : XdAt d H := h.2.elim (fun e => .inl e.2) fun ⟨_, dd, fv, e1, e2, _⟩ => .inr ⟨dd, fv, e1, e2⟩
theorem XdAt.upd {d : Option Addr} {H : Hp} {p : Addr} {o : HO} (h : XdAt d H) (hp : H p = none) : XdAt d (upd H p o) := h.imp id fun ⟨dd, fs, e1, e2⟩ => ⟨dd, fs, e1, by rw [upd_ne (ne_of_none e2 hp)]; exact e2⟩
theorem xo_at {K : PySem.W.Frag} {B : Bs} {G : Gh} {S : S} {σ : St} {H : Hp} {i c : Nat} {fs : List (Str × D)} (hR : Rel T K B G S σ H) (e : S.env[i]? = some (.xo c fs)) : ∃ (a : Addr) (d : Option Addr), σ[i]? = some (some (.ref a)) ∧ T.x = some (a, .ref (T.c c), d) ∧ ExR T K c fs (.ref (T.c c)) d G H := by
  have z := hR.sl _ _ e
  cases z' : σ[i]? with
  | none => rw [z'] at z; cases z
  | some o =>
    rw [z'] at z
    cases z with
    | @xo a cls d _ _ e1 e2 =>
      have e3 := e2.1
      subst e3
      exact ⟨a, d, rfl, e1, e2⟩
theorem sE_isx {X : Cx} {sc : Scope} {B : Bs} {W : WX} (h : HCxt X PG nm T N sc k fl) {i n : Nat} {x y : Str} {px pf py p : Pos} (hx : okVar N sc i x = true) (hg : okGl sc "isinstance" = true) (hy : okGl sc y = true) (hn : PG.cls[n]? = some y) :
    PE X (.Call (.Name "isinstance" pf) [.Name x px, .Name y py] [] p) (tE T X.K B W fun s => match s.env[i]? with
    | some (.xo c _) => if (PG.cls[c]?).isSome = true then .ok (.va (.bl (PG.sub c n))) s else .bad
    | _ => .bad) := by
  obtain ⟨g1, g2, g3⟩ := h.gl hy
  have ha : PA X [.Name x px, .Name y py] (tCons (tVar i) (tCons (tC (.ref (T.c n))) tNil)) := pa_cons (h.var hx) (pa_cons (pe_glob g1 (h.cls n y hn) rfl g2) pa_nil)
  refine ⟨fun pins s σ H Q I ⟨G, S, hR, q⟩ => ?_⟩
  revert q
  dsimp only
  split
  · rename_i c fs e
    intro q
    split at q
    · rename_i hc
      obtain ⟨xc, hc⟩ := Option.isSome_iff_exists.mp hc
      obtain ⟨a, d, z', e1, e2⟩ := xo_at hR e
      exact (pe_callB (h.isE a c d xc e1 hc).1 (h.gl hg).1 h.isi (by decide +kernel) ha).run pins s σ H Q I ⟨.ref a, z', .ref (T.c n), .ref (T.c n), PG.sub c n, rfl, fun u r => r, h.sub c n xc y hc hn, e2.xd, q G H (.bl _) (.refl _ _ _ _) hR (.va (.bl _))⟩
    · exact q.elim
  · exact fun q => q.elim
theorem boot_ve : bootBuiltins ("ValueError" : Str) = some (.type "ValueError") := by decide +kernel
theorem sE_isxb {X : Cx} {sc : Scope} {B : Bs} {W : WX} (h : HCxt X PG nm T N sc k fl) {i : Nat} {x y : Str} {px pf py p : Pos} (hx : okVar N sc i x = true) (hg : okGl sc "isinstance" = true) (hy : okGl sc y = true) (hn : y = "ValueError") :
    PE X (.Call (.Name "isinstance" pf) [.Name x px, .Name y py] [] p) (tE T X.K B W fun s => match s.env[i]? with
    | some (.xo c _) => if (PG.cls[c]?).isSome = true then .ok (.va (.bl true)) s else .bad
    | _ => .bad) := by
  obtain ⟨g1, g2, g3⟩ := h.gl hy
  subst hn
  have ha : PA X [.Name x px, .Name "ValueError" py] (tCons (tVar i) (tCons (tC (.ty "ValueError")) tNil)) := pa_cons (h.var hx) (pa_cons (pe_bltn g1 h.vln boot_ve (v := .ty "ValueError") rfl g3 g2) pa_nil)
  refine ⟨fun pins s σ H Q I ⟨G, S, hR, q⟩ => ?_⟩
  revert q
  dsimp only
  split
  · rename_i c fs e
    intro q
    split at q
    · rename_i hc
      obtain ⟨xc, hc⟩ := Option.isSome_iff_exists.mp hc
      obtain ⟨a, d, z', e1, e2⟩ := xo_at hR e
      exact (pe_callB (h.isE a c d xc e1 hc).1 (h.gl hg).1 h.isi (by decide +kernel) ha).run pins s σ H Q I ⟨.ref a, z', .ty "ValueError", .type "ValueError", true, rfl, fun u r => r, h.vle c xc hc, e2.xd, q G H (.bl _) (.refl _ _ _ _) hR (.va (.bl _))⟩
    · exact q.elim
  · exact fun q => q.elim
def tCs (vs : List V) : TA := fun σ H Q => Q vs H
theorem pa_names {X : Cx} {sc : Scope} (h : HCxt X PG nm T N sc k fl) : ∀ {l : List (Nat × Str × Pos)}, (l.all fun t => okGl sc t.2.1 && decide (PG.cls[t.1]? = some t.2.1)) = true → PA X (upNs l) (tCs ((l.map fun t => T.c t.1).map V.ref))
  | [], _ => pa_nil
  | (n, y, p) :: r, o => by
    rw [List.all_cons, Bool.and_eq_true, Bool.and_eq_true] at o
    obtain ⟨g1, g2, g3⟩ := h.gl o.1.1
    exact pa_cons (pe_glob (v := .ref (T.c n)) g1 (h.cls n y (of_decide_eq_true o.1.2)) rfl g2) (pa_names h o.2)
theorem kitAny_of {X : Cx} {sc : Scope} (h : HCxt X PG nm T N sc k fl) {c : Nat} {xc : Str} (hc : PG.cls[c]? = some xc) : ∀ {l : List (Nat × Str × Pos)}, (l.all fun t => okGl sc t.2.1 && decide (PG.cls[t.1]? = some t.2.1)) = true → PySem.W.kitAny X.K (.ref (T.c c)) ((l.map fun t => T.c t.1).map Value.ref) = some (l.any fun t => PG.sub c t.1)
  | [], _ => rfl
  | (n, y, p) :: r, o => by
    rw [List.all_cons, Bool.and_eq_true, Bool.and_eq_true] at o
    have k1 := h.sub c n xc y hc (of_decide_eq_true o.1.2)
    have k2 := kitAny_of h hc o.2
    show PySem.W.kitAny X.K (.ref (T.c c)) (Value.ref (T.c n) :: (r.map fun t => T.c t.1).map Value.ref) = _
    unfold PySem.W.kitAny
    rw [k1, List.any_cons]
    cases e : PG.sub c n with
    | true => rfl
    | false => dsimp only; rw [k2]; rfl
theorem sE_isxt {X : Cx} {sc : Scope} {B : Bs} {W : WX} (h : HCxt X PG nm T N sc k fl) {i j : Nat} {l : List (Nat × Str × Pos)} {x : Str} {px pf pt p : Pos} (hx : okVar N sc i x = true) (hg : okGl sc "isinstance" = true) (hl : (l.all fun t => okGl sc t.2.1 && decide (PG.cls[t.1]? = some t.2.1)) = true) (hz : l.length ≤ sizeLine) :
    PE X (.Call (.Name "isinstance" pf) [.Name x px, .Tuple (upNs l) j pt] [] p) (tE T X.K B W fun s => match s.env[i]? with
    | some (.xo c _) => if (PG.cls[c]?).isSome = true then .ok (.va (.bl (l.any fun t => PG.sub c t.1))) s else .bad
    | _ => .bad) := by
  have hp : PE X (.Tuple (upNs l) j pt) _ := pe_tup (pa_names h hl)
  have ha : PA X [.Name x px, .Tuple (upNs l) j pt] _ := pa_cons (h.var (p := px) hx) (pa_cons hp pa_nil rfl) rfl
  refine ⟨fun pins s σ H Q I ⟨G, S, hR, q⟩ => ?_⟩
  revert q
  dsimp only
  split
  · rename_i c fs e
    intro q
    split at q
    · rename_i hc
      obtain ⟨xc, hc⟩ := Option.isSome_iff_exists.mp hc
      obtain ⟨a, d, z', e1, e2⟩ := xo_at hR e
      exact (pe_callB (h.isE a c d xc e1 hc).2 (h.gl hg).1 h.isi (by decide +kernel) ha).run pins s σ H Q I ⟨.ref a, z', by rw [List.length_map, List.length_map]; exact hz, fun tp hp => ⟨tp, _, _, rfl, .inl (.inl upd_same), kitAny_of h hc hl, e2.xd.upd hp, q G _ (.bl _) (.laid hR hp) (hR.laid hp) (.va (.bl _))⟩⟩
    · exact q.elim
  · exact fun q => q.elim
theorem sE_hcal {X : Cx} {sc : Scope} {B : Bs} {W : WX} (h : HCxt X PG nm T N sc k fl) {i n : Nat} {x f : Str} {px pf p : Pos} (hf : fl = true) (hx : okVar N sc i x = true) (hg : okGl sc f = true) (hn : nm n = f ∧ f ≠ "") (h0 : (PG.fns[n]?).isNone = true) (h1 : (PG.hfs[n - PG.fns.length]?).isSome = true) :
    PE X (.Call (.Name f pf) [.Name x px] [] p) (tE T X.K B W fun s => match s.env[i]? with
    | some (.xo c fs) => if (PG.fns[n]?).isNone = true then hotR (cal PG k n [.exo c fs] s.st) s else .bad
    | _ => .bad) := by
  obtain ⟨g1, g2, g3⟩ := h.gl hg
  obtain ⟨fd, h1⟩ := Option.isSome_iff_exists.mp h1
  have h0' : PG.fns[n]? = none := Option.isNone_iff_eq_none.mp h0
  have P := h.hc hf n fd f (.Name x px) _ pf p h0' h1 hn.1 hn.2 g1 g2 (h.var hx) rfl
  refine ⟨fun pins s σ H Q I ⟨G, S, hR, q⟩ => ?_⟩
  revert q
  dsimp only
  split
  · rename_i c fs e
    intro q
    rw [if_pos h0] at q
    obtain ⟨a, d, z', e1, e2⟩ := xo_at hR e
    refine P.run pins s σ H Q I ⟨.ref a, z', a, .ref (T.c c), d, G, c, fs, S.st, e1, rfl, hR.c, e2, ?_⟩
    revert q
    cases cal PG k n [.exo c fs] S.st with
    | ok r st' => exact fun q G' H' v x c r => q G' H' v (.called x) (hR.called x c) (RRC.rr r hR)
    | ex c fs st' => exact fun q => q.elim
    | bad => exact fun q => q.elim
  · exact fun q => q.elim
theorem sE_xfl {X : Cx} {sc : Scope} {B : Bs} {W : WX} (h : HCxt X PG nm T N sc k fl) {i : Nat} {x f : Str} {px p : Pos} (hf : fl = true) (hx : okVar N sc i x = true) :
    PE X (.Attribute (.Name x px) f p) (tE T X.K B W fun s => xfl1 PG f s.env[i]? s) := by
  refine ⟨fun pins s σ H Q I ⟨G, S, hR, q⟩ => ?_⟩
  revert q
  unfold xfl1
  dsimp only
  split
  · rename_i c fs e
    intro q
    split at q
    · rename_i hc
      have z := hR.sl _ _ e
      cases hxn : PG.xin c with
      | none => rw [hxn] at hc; cases hc
      | some fq =>
        obtain ⟨f', k⟩ := fq
        rw [hxn] at hc
        have hc : some f' = some f := hc
        cases hc
        cases z' : σ[i]? with
        | none => rw [z'] at z; cases z
        | some o =>
          rw [z'] at z
          cases z with
          | @xo a cls d _ _ e1 e2 =>
            obtain ⟨rfl, e3⟩ := e2
            cases hg : fget f fs with
            | none => rw [hg] at q; exact q.elim
            | some y =>
              rw [hg] at q
              rcases e3 with ⟨rfl, _⟩ | ⟨ne, dd, fv, rfl, ed, rf⟩
              · cases hg
              · obtain ⟨_, l2⟩ | ⟨v, d2, l, l2, rv⟩ := fget_of (f := f) rf
                · rw [hg] at l2; cases l2
                rw [hg] at l2
                cases l2
                exact (h.xf hf a c _ f k (.Name x px) _ p e1 hxn rfl (h.var hx) (h.xcl c (f, k) hxn)).run pins s σ H Q I ⟨.ref a, z', rfl, rfl, dd, fv, v, rfl, ed, l, q G H v (.refl _ _ _ _) hR (.va rv)⟩
    · exact q.elim
  · exact fun q => q.elim
theorem hbase_of {sc : Scope} (c : C) (f : Str) (env : Env) (h : hokC PG nm N fl sc c = true) : attributeBase c.up f env (eval c.up env) = eval c.up env := by
  cases c <;> first
    | rfl
    | (simp [hokC] at h; done)
    | (rename_i es _; cases es <;> first | rfl | (simp [hokC, CL.len] at h; done))
mutual
theorem hsnd : ∀ c : C, HSE PG nm T N k fl c
  | .var i x p => fun X sc B W h o => se_val rfl (sE_var (h.var o))
  | .cint n j p => fun X sc B W h o => se_val rfl (sE_val pe_int fun _ _ => .int n)
  | .cbl n j p => fun X sc B W h o => se_val rfl (sE_val pe_bl fun _ _ => .bl n)
  | .cnon j p => fun X sc B W h o => se_val rfl (sE_val pe_non fun _ _ => .non)
  | .cstr n j p => fun X sc B W h o => se_val rfl (sE_val pe_str fun _ _ => .str n)
  | .glo n x p => fun X sc B W h o => se_val rfl (by
      obtain ⟨o1, o2⟩ := a2 o
      obtain ⟨g1, g2, g3⟩ := h.gl o1
      cases e : PG.cst[n]? with
      | none => rw [e] at o2; cases o2
      | some y =>
        obtain ⟨y, d⟩ := y
        rw [e] at o2
        have o2 : x = y := of_decide_eq_true o2
        subst o2
        obtain ⟨u, v, m1, m2, m3⟩ := h.cst n x d e
        have z := sE_val (T := T) (B := B) (W := W) (pe_glob (pos := p) g1 m1 m2 g2) m3
        refine pe_imp z fun σ H Q ⟨G, s, hR, q⟩ => ⟨G, s, hR, ?_⟩
        have q : At T X.K B W (PR T X.K B) (match PG.cst[n]? with
          | some (_, d) => Oc.ok (R.va d) s
          | none => .bad) G s σ H Q := q
        rw [e] at q
        exact q)
  | .tup es j p => fun X sc B W h o => se_val rfl (sE_tup (hsndL es X sc B W h o).1)
  | .lst es p => fun X sc B W h o => se_val rfl (sE_lst (hsndL es X sc B W h o).1)
  | .bin op a b p => fun X sc B W h o => se_val rfl (sE_bin (hsnd a X sc B W h (a2 o).1).1 (hsnd b X sc B W h (a2 o).2).1)
  | .cmp op a b p => fun X sc B W h o => ⟨sE_cmp h.hu (mark_of op b) (hsnd a X sc B W h (a2 o).1).1 (hsnd b X sc B W h (a2 o).2).1, sT_cmp h.hu (mark_of op b) (hsnd a X sc B W h (a2 o).1).1 (hsnd b X sc B W h (a2 o).2).1⟩
  | .and_ a (.cons b bs) p => fun X sc B W h o => by
      obtain ⟨o1, o2, o3⟩ := a3 o
      have ha := hsnd a X sc B W h o1
      have hb := ((hsndL (.cons b bs) X sc B W h o2).2 (of_decide_eq_true o3) p).1
      exact ⟨sE_and ha.1 hb.1, (sW_and ha.2 hb.2).pt⟩
  | .and_ a .nil p => fun X sc B W h o => absurd (of_decide_eq_true (a3 o).2.2) (by decide)
  | .or_ a (.cons b bs) p => fun X sc B W h o => by
      obtain ⟨o1, o2, o3⟩ := a3 o
      have ha := hsnd a X sc B W h o1
      have hb := ((hsndL (.cons b bs) X sc B W h o2).2 (of_decide_eq_true o3) p).2
      exact ⟨sE_or ha.1 hb.1, (sW_or ha.2 hb.2).pt⟩
  | .or_ a .nil p => fun X sc B W h o => absurd (of_decide_eq_true (a3 o).2.2) (by decide)
  | .not_ a p => fun X sc B W h o => ⟨sE_not (hsnd a X sc B W h o).1, sT_not (hsnd a X sc B W h o).2⟩
  | .ix a b p => fun X sc B W h o => se_val rfl (sE_ix (hsnd a X sc B W h (a2 o).1).1 (hsnd b X sc B W h (a2 o).2).1 (plainIx_of b))
  | .xfl i x px f p => fun X sc B W h o => se_val rfl (sE_xfl h (a2 o).2 (a2 o).1)
  | .isx i x px pf n y py p => fun X sc B W h o => se_val rfl (by
      obtain ⟨o1, o2, o3, o4⟩ := a4 o
      exact sE_isx h o1 o2 o3 (of_decide_eq_true o4))
  | .isxb i x px pf y py p => fun X sc B W h o => se_val rfl (by
      obtain ⟨o1, o2, o3, o4⟩ := a4 o
      exact sE_isxb h o1 o2 o3 (of_decide_eq_true o4))
  | .isxt i x px pf l j pt p => fun X sc B W h o => se_val rfl (by
      obtain ⟨o1, o2, o3, o4⟩ := a4 o
      exact sE_isxt h o1 o2 o3 (of_decide_eq_true o4))
  | .hcal n f pf i x px p => fun X sc B W h o => se_val rfl (by
      obtain ⟨o1, o2, o3, o4, o5⟩ := a5 o
      have o4 := of_decide_eq_true o4
      exact sE_hcal h o5 o1 o2 (of_decide_eq_true o3) o4.1 o4.2)
  | .inb c px p => fun X sc B W h o => se_val rfl (by
      obtain ⟨o1, o2⟩ := a2 o
      exact sE_inb (h.gl o1).1 h.iti (hsnd c X sc B W h o2).1 (nostar c _ _))
  | .dix a b p => fun X sc B W h o => se_val rfl (by
      have hu := h.hu
      exact sE_dix (by omega) (hsnd a X sc B W h (a2 o).1).1 (hsnd b X sc B W h (a2 o).2).1 (noSl_of b))
  | .lme b r a pa p => fun X sc B W h o => se_val rfl (by
      obtain ⟨o1, o2, o3⟩ := a3 o
      exact sE_lme (hsnd r X sc B W h o1).1 (hsnd a X sc B W h o2).1 (fun n => hbase_of r _ _ o1) (nostar a _ _) o3)
  | .bx .. | .dnw .. | .fld .. | .meth .. | .mtd .. | .mtk .. | .dctp .. | .dctt .. | .lset .. | .lkeys .. | .get1 .. | .setd .. | .dpop1 .. | .dpop2 .. | .new .. | .pop .. | .srt .. | .srti .. | .srtk .. | .lcl .. | .rvt .. | .fnv .. | .calv .. | .fz .. | .mv .. | .bty .. | .dct .. | .un .. | .chain .. | .ife .. | .call .. | .bi .. | .mt .. | .get2 .. | .din .. | .sl .. | .lc .. => fun X sc B W h o => absurd (show false = true from o) (by decide)
theorem hsndL : ∀ (cs : CL) (X : Cx) (sc : Scope) (B : Bs) (W : WX), HCxt X PG nm T N sc k fl → hokL PG nm N fl sc cs = true → PA X cs.up (tL T X.K B W (evL PG (cal PG k) cs)) ∧
  (0 < cs.len → ∀ p, (PE X (.BoolOp .And cs.up p) (tE T X.K B W (evAnd PG (cal PG k) cs)) ∧ PW X (.BoolOp .And cs.up p) (tT T X.K B W fun s => asB (evAnd PG (cal PG k) cs s))) ∧
  (PE X (.BoolOp .Or cs.up p) (tE T X.K B W (evOr PG (cal PG k) cs)) ∧ PW X (.BoolOp .Or cs.up p) (tT T X.K B W fun s => asB (evOr PG (cal PG k) cs s))))
  | .nil => fun X sc B W h o => ⟨sL_nil, fun z => absurd z (by decide)⟩
  | .cons c .nil => fun X sc B W h o => by
      have hc := hsnd c X sc B W h (a2 o).1
      refine ⟨sL_cons hc.1 sL_nil (nostar c _ _), fun _ p => ⟨⟨pe_one hc.1, pw_and1 hc.2⟩, ⟨pe_one hc.1, pw_or1 hc.2⟩⟩⟩
  | .cons c (.cons d ds) => fun X sc B W h o => by
      have hc := hsnd c X sc B W h (a2 o).1
      have hd := hsndL (.cons d ds) X sc B W h (a2 o).2
      refine ⟨sL_cons hc.1 hd.1 (nostar c _ _), fun _ p => ?_⟩
      have r := hd.2 (by simp [CL.len]) p
      exact ⟨⟨sE_and hc.1 r.1.1, sW_and hc.2 r.1.2⟩, ⟨sE_or hc.1 r.2.1, sW_or hc.2 r.2.2⟩⟩
end
mutual
theorem hsndS : ∀ (c : CS) (X : Cx) (sc : Scope) (B : Bs) (W : WX), HCxt X PG nm T N sc k fl → (X.fn = fun _ => true) → hokS PG nm N fl sc c = true → PS X c.up (tS T X.K B W (exs PG (cal PG k) c))
  | .set i x px c p => fun X sc B W h hf o => by
      obtain ⟨o1, o2, o3⟩ := a3 o
      have hx := h.nmo hf o1
      exact sS_set h.nd hx.1 hx.2.1 (hsnd c X sc B W h o2).1 (swaps_of c _ _ _ (by simpa using o3)) hx.2.2
  | .seto i x px c p => fun X sc B W h hf o => by
      obtain ⟨o1, o2, o3⟩ := a3 o
      have hx := h.nmo hf o1
      exact sS_seto h.nd hx.1 hx.2.1 (hsnd c X sc B W h o2).1 (swaps_of c _ _ _ (by simpa using o3)) hx.2.2
  | .app i x px pa c pc p => fun X sc B W h hf o => by
      obtain ⟨o1, o2, o3⟩ := a3 o
      exact sS_app (h.var o1) (hsnd c X sc B W h o2).1 (nostar c _ _) o3
  | .ifs t a b p => fun X sc B W h hf o => sS_if (hsnd t X sc B W h (a3 o).1).2 (hsndB a X sc B W h hf (a3 o).2.1) (hsndB b X sc B W h hf (a3 o).2.2)
  | .sput r j po c p => fun X sc B W h hf o => by
      obtain ⟨o1, o2, o3, o4⟩ := a4 o
      have hu := h.hu
      exact sS_sput (by omega) (hsnd r X sc B W h o1).1 (hsnd j X sc B W h o2).1 (hsnd c X sc B W h o3).1 (swaps_of c _ _ _ (by simpa using o4))
  | .pass p => fun X sc B W h hf o => sS_pass
  | .ret c p => fun X sc B W h hf o => sS_ret (hsnd c X sc B W h (a2 o).1).1
  | .sfld .. | .mapp .. | .mext .. | .mclr .. | .raisx .. | .forl .. | .setl .. | .rev .. | .unp .. | .expr .. | .ret0 .. | .swp2 .. | .for_ .. | .while_ .. | .wild .. | .tokm .. | .rep .. | .raise_ .. | .try_ .. => fun X sc B W h hf o => absurd (show false = true from o) (by decide)
theorem hsndB : ∀ (c : CB) (X : Cx) (sc : Scope) (B : Bs) (W : WX), HCxt X PG nm T N sc k fl → (X.fn = fun _ => true) → hokB PG nm N fl sc c = true → PSs X c.up (tS T X.K B W (exb PG (cal PG k) c))
  | .nil => fun X sc B W h hf o => sB_nil
  | .cons c cs => fun X sc B W h hf o => sB_cons (hsndS c X sc B W h hf (a2 o).1) (hsndB cs X sc B W h hf (a2 o).2)
end
end
end BB

namespace BB
open PySem PySem.Spec PyProof.Rows L2
/-! a def called in a suite, with the caught error alone -/
section
variable {X : Cx} {PG : Prog} {nm : Nat → Str} {T : Tab}
/-- what a context of the text has -/
structure HMg (K : PySem.W.Frag) (mg : Str → Option Value) (PG : Prog) (T : Tab) : Prop where
  cst : ∀ (n : Nat) (x : Str) (d : D), PG.cst[n]? = some (x, d) → ∃ u v, mg x = some u ∧ RelV v u ∧ ∀ G H, RV T K G H v d
  cls : ∀ (n : Nat) (x : Str), PG.cls[n]? = some x → mg x = some (.ref (T.c n)) ∧ ExcC K (T.c n)
  sub : ∀ (n m : Nat) (x y : Str), PG.cls[n]? = some x → PG.cls[m]? = some y → PySem.W.kitOne K (.ref (T.c n)) (.ref (T.c m)) = some (PG.sub n m)
  xcl : ∀ (n : Nat) (q : Str × Option Nat), PG.xin n = some q → ∃ y, PG.cls[n]? = some y
  isi : mg "isinstance" = none
  vle : ∀ (n : Nat) (x : Str), PG.cls[n]? = some x → PySem.W.kitOne K (.ref (T.c n)) (.type "ValueError") = some true
  vln : mg "ValueError" = none
  iti : mg "int" = none
theorem hot_start {K : PySem.W.Frag} {G : Gh} {H : Hp} {a : Addr} {cls : Value} {d : Option Addr} {c : Nat} {fs : List (Str × D)} {st : Sto} {N : List Str} (r : RelC T K G st H) (hx : T.x = some (a, cls, d)) (e : ExR T K c fs cls d G H) (hl : 1 ≤ N.length) :
    Rel T K ⟨G, H⟩ G ⟨.xo c fs :: List.replicate (N.length - 1) .no, st⟩ (L2.start N [.ref a]) H := by
  have key : ∀ (i : Nat) (x : BB.Slot), (BB.Slot.xo c fs :: List.replicate (N.length - 1) BB.Slot.no)[i]? = some x → (x = .xo c fs ∧ i = 0) ∨ x = .no := fun i x h => by
    cases i with
    | zero => exact .inl ⟨(Option.some.inj h).symm, rfl⟩
    | succ i =>
      rw [List.getElem?_cons_succ, List.getElem?_replicate] at h
      split at h
      · cases h; exact .inr rfl
      · cases h
  have no : ∀ i b, ¬ Own ⟨.xo c fs :: List.replicate (N.length - 1) .no, st⟩ (L2.start N [.ref a]) i b := fun i b ⟨⟨x, h, ho⟩, _⟩ => by
    rcases key i x h with ⟨rfl, _⟩ | rfl <;> cases ho
  refine ⟨?_, fun i x h => ?_, fun b ⟨i, h⟩ => absurd h (no i b), fun i j b h _ => absurd h (no i b), r, .refl _ _⟩
  · unfold L2.start
    simp only [List.length_cons, List.length_replicate, List.length_append, List.length_map, List.length_nil]
    omega
  · rcases key i x h with ⟨rfl, rfl⟩ | rfl
    · exact .xo hx e
    · exact .no _
theorem hot_run {oe : Obj} {a : Addr} {cls : Value} {d : Option Addr} {n c k : Nat} {f : FnD} {fs : List (Str × D)} {st : Sto} {G : Gh} {pins : List (Addr × Obj)} {σ : St} {H : Hp} {s : Shared} {Q : VK}
    (M : HMg X.K X.mg PG T) (F : HFn X.K X.mg PG nm T n f) (h0 : PG.fns[n]? = none) (h1 : PG.hfs[n - PG.fns.length]? = some f) (room : L2H.RoomH 1 X.A) (hpin : (a, oe) ∈ X.pn) (hz : Zc cls d oe) (hv : ∃ vs, oe.data = .fields vs) (hx : T.x = some (a, cls, d))
    (I : Inv X pins σ H s) (r : RelC T X.K G st H) (e : ExR T X.K c fs cls d G H) (q : CAt T X.K (cal PG (k + 1) n [.exo c fs] st) G H Q (fun _ _ _ => False)) : wpAny (model X.prog X.w) X.A (call (.ref (T.f n)) [.ref a]) (EP X pins σ Q) X.xe s := by
  obtain ⟨x, qual, sn, fd, N, y, ⟨⟨oc, od, kV, doc, pm, an, cdv, ct, osl, hfd, lk, hcd⟩, _⟩, S, hb, ok, hN, bd⟩ := F.ex
  have P1 := I.pin (a, oe) (List.mem_append_left _ hpin)
  have pin : L2H.PinOk X.stack H s (a, oe) := ⟨P1.1, P1.2.1, fun m => by
    rcases List.mem_cons.mp (I.stkSub a m) with z | z
    · exact P1.2.2.1 z
    · exact P1.2.2.2.1 z, P1.2.2.2.2⟩
  have env0 := I.env0
  have b0 := bd s [.ref a] I.kIn rfl
  rw [List.append_nil] at b0
  have lim : s.heap.NoLimit := env0.mod.nolimit.keeps fun b o z => (env0.bs b o z).1
  have kinds : ∀ z ∈ [y].zip [Value.ref a], (defScope sn).names.lookup z.1 = some .local ∨ ((defScope sn).names.lookup z.1 = some .cell ∧ ((cellsFrom (s.heap.objs.size + 1) (defScope sn).names []).lookup z.1).isSome = true) := fun z hz' => by
    have ez : z = (y, Value.ref a) := List.mem_singleton.mp hz'
    subst ez
    exact (S.par y (List.mem_singleton.mpr rfl)).imp id fun w => ⟨w, PySem.W.cellsFrom_some _ _ _ (.inl w)⟩
  have hl1 : 1 ≤ N.length := by have := congrArg List.length S.pre; rw [List.length_take] at this; simp only [List.length_cons, List.length_nil] at this; omega
  subst hfd
  refine wpAny_call (codeAny_mono (R := L2.CR (L2.CX X.prog X.w) X.stack X.prog X.w H s Q (fun _ _ _ => False)) (codeAny_call_function room.depth (I.kIn _ _ lk) rfl S.co S.gen rfl (PySem.W.codeRec_of I.kIn hcd) (b0 _ _ _ _ ?_)) fun res s' hq => ?_)
  · refine wpAny_newFunctionEnv_cells S.kind kinds fun env he s1 xc => ?_
    subst he
    refine ⟨lim.keeps xc.toInCall.keep, codeAny_func ?_⟩
    let Y := L2H.cxH (L2.CX X.prog X.w) X.prog X.w X.K X.mg X.base N qual (defScope sn) (T.f n) cdv X.A X.stack s H (fun _ _ _ => False) (a, oe)
    have J : Inv Y [] (L2.start N [.ref a]) H s1 := L2H.inv_startH S pin env0 rfl (.cons rfl .nil) xc
    have un : Y.A.units + 65 < cLine := by
      have := (L2H.RoomH.deeper (k := 0) room (envOfC qual (defScope sn) s.heap.objs.size (T.f n) cdv)).un
      show (X.A.deeper _).units + 65 < cLine
      omega
    have HC : HCxt Y PG nm T N (defScope sn) k false := ⟨rfl, rfl, S.nd, un, M.cst, fun n x h => (M.cls n x h).1, M.sub, M.xcl, M.isi, fun z => Bool.noConfusion z, fun a' c' d' xc' e1 e2 => by
      rw [hx] at e1
      cases e1
      exact ⟨call_isG (X := Y) List.mem_cons_self (M.cls c' xc' e2).2 hz hv, call_isT (X := Y) List.mem_cons_self (M.cls c' xc' e2).2 hz hv⟩, M.vle, M.vln, M.iti, fun z => Bool.noConfusion z⟩
    have sb := hsndB f.body Y (defScope sn) ⟨G, H⟩ (fun _ _ _ _ => False) HC rfl ok
    rw [← hb] at sb
    have at_ : FAt T X.K ⟨G, H⟩ (fun _ _ _ _ => False) (exb PG (cal PG k) f.body ⟨.xo c fs :: List.replicate (N.length - 1) .no, st⟩) G H { nx := fun _ H' => Q .non H', rt := Q } := by
      unfold cal at q
      rw [h0] at q
      dsimp only at q
      rw [h1] at q
      dsimp only at q
      rw [hN] at q
      revert q
      cases exb PG (cal PG k) f.body ⟨.xo c fs :: List.replicate (N.length - 1) .no, st⟩ with
      | nx s' => exact fun q G' σ' H' _ R => q G' H' .non R.b R.c (.va .non)
      | rt r s' =>
        cases r with
        | own i => exact fun q => q.elim
        | va d => exact fun q G' σ' H' v _ R x => q G' H' v R.b R.c (by cases x with | va y => exact .va y)
        | fl l => exact fun q G' σ' H' v _ R x => q G' H' v R.b R.c (by cases x with | fl a b c d e => exact .fl a b c d e)
        | fd t l => exact fun q G' σ' H' v _ R x => q G' H' v R.b R.c (by cases x with
            | fdK a b c d e => exact .fdK a b c d e
            | fdT a b c d e => exact .fdT a b c d e)
      | bk s' => exact fun q => q.elim
      | ct s' => exact fun q => q.elim
      | ex m fs s' => exact fun q G' σ' H' cls d _ R x => q G' H' cls d R.b R.c x
      | bad => exact fun q => q
    have run := sb.run [] s1 (L2.start N [.ref a]) H { nx := fun _ H' => Q .non H', rt := Q } J ⟨G, _, hot_start r hx e hl1, at_⟩
    refine wpAny_mono run (fun fl s' hs => ?_) fun u s' hs => hs
    have fin : ∀ {σ' : St} {H' : Hp} {v : V} {u : Value}, Inv Y [] σ' H' s' → RelV v u → Q v H' → L2.CE X.stack X.prog X.w H s Q u s' := fun J' rv q' => ⟨_, _, J'.os, J'.bare, J'.base, J'.hok, rv, q'⟩
    cases fl with
    | ret u => obtain ⟨v, σ', H', J', rv, q'⟩ := hs; exact fin J' rv q'
    | next => obtain ⟨σ', H', J', q'⟩ := hs; exact fin (v := V.non) (u := Value.none) J' rfl q'
    | brk => obtain ⟨_, _, _, q'⟩ := hs; exact q'.elim
    | cont => obtain ⟨_, _, _, q'⟩ := hs; exact q'.elim
  · cases res with
    | error u => obtain ⟨_, _, _, _, _, _, _, _, _, _, _, _, z⟩ := (show L2.CX X.prog X.w X.stack H s (fun _ _ _ => False) u s' from hq); exact z.elim
    | ok fl => cases fl with
      | ret u => exact I.after hq
      | _ => exact hq.elim
/-- the rule -/
theorem pe_hot {oe : Obj} {a : Addr} {cls : Value} {d : Option Addr} {n k : Nat} {f : FnD} {x : Str} {ex : Expr} {te : TE} {pf p : Pos} (M : HMg X.K X.mg PG T) (F : HFn X.K X.mg PG nm T n f) (h0 : PG.fns[n]? = none) (h1 : PG.hfs[n - PG.fns.length]? = some f) (room : L2H.RoomH 1 X.A) (hpin : (a, oe) ∈ X.pn) (hz : Zc cls d oe) (hv : ∃ vs, oe.data = .fields vs) (hx : T.x = some (a, cls, d))
    (hn : nm n = x) (hne : x ≠ "") (hg : Gl X x) (hdb : (x == ("__debug__" : Str)) = false) (he : PE X ex te) (hst : starEach [ex] X.env = (false, eval ex X.env) :: starEach [] X.env) : PE X (.Call (.Name x pf) [ex] [] p) (tHot T X.K PG k n te) := by
  have hm : X.mg x = some (.ref (T.f n)) := by rw [← hn]; exact F.at_ (by rw [hn]; exact hne)
  have ha : PA X [ex] (tCons te tNil) := pa_cons he pa_nil hst
  refine ⟨fun pins s σ H Q I h => ?_⟩
  have h' : tCons te tNil σ H (fun vs H1 => match vs with
    | [v] => ∃ (a : Addr) (cls : Value) (d : Option Addr) (G : Gh) (c : Nat) (fs : List (Str × D)) (st : Sto), T.x = some (a, cls, d) ∧ v = .ref a ∧ RelC T X.K G st H1 ∧ ExR T X.K c fs cls d G H1 ∧ CAt T X.K (cal PG k n [.exo c fs] st) G H1 Q (fun _ _ _ => False)
    | _ => False) := h
  refine wpAny_Call_Name_kw (ld_glob I hg hm (PySem.W.callWith_K (h₀ := X.base) I.ok.mod.kin F.kp (thn (ha.run p pins s σ H _ I h') fun us s1 ⟨vs, H1, I1, rv, g⟩ => ⟨I1.kIn, ?_⟩) hst rfl) hdb)
  cases rv with
  | nil => exact g.elim
  | cons r1 r2 =>
    cases r2 with
    | cons _ _ => exact g.elim
    | nil =>
      obtain ⟨a', cls', d', G, c, fs, st, e1, e2, e3, e4, e5⟩ := g
      rw [hx] at e1
      cases e1
      subst e2
      cases r1
      cases k with
      | zero => exact e5.elim
      | succ k => exact hot_run M F h0 h1 room hpin hz hv hx I1 e3 e4 e5
end
end BB

namespace BB
open PySem PySem.Spec PyProof.Rows L2
/-! a try whose clauses are named or not -/
abbrev Clause := Value × Option Nat × (Addr → Value → Option Addr → TS)
def endsAt (D : Ends) (i : Nat) : Ends := { nx := fun σ' H' => D.nx (σ'.set i none) H', rt := D.rt, bk := fun σ' H' => D.bk (σ'.set i none) H', ct := fun σ' H' => D.ct (σ'.set i none) H' }
/-- what the clauses wish of an exception of the body -/
def wMix (K : PySem.W.Frag) (Wout : WX) (D : Ends) : List Clause → WX
  | [] => Wout
  | (c, o, ts) :: r => fun cls d σ H => ∃ b, PySem.W.exmOne K cls c = some b ∧ (b = true → ∀ a, H a = none → match o with
      | none => ts a cls d D σ H
      | some i => ts a cls d (endsAt D i) (σ.set i (some (.ref a))) H) ∧ (b = false → wMix K Wout D r cls d σ H)
/-- the clauses and their words -/
inductive MixOk (X : Cx) : List ExceptHandler → List Clause → Prop
  | nil : MixOk X [] []
  | plain {x : Str} {c : Value} {ts : Addr → Value → Option Addr → TS} {b₀ : Stmt} {suite : List Stmt} {np pos' : Pos} {hds : List ExceptHandler} {l : List Clause} (hc : Names X x c)
      (hsu : ∀ (a : Addr) (oe : Obj) (cls : Value) (d : Option Addr) (pn : List (Addr × Obj)), Zc cls d oe → (∃ vs, oe.data = .fields vs) → PSs (X.suite a ((a, oe) :: pn)) (b₀ :: suite) (ts a cls d)) (r : MixOk X hds l) :
      MixOk X (.ExceptHandler (some (.Name x np)) none (b₀ :: suite) pos' :: hds) ((c, none, ts) :: l)
  | named {x n : Str} {c : Value} {i : Nat} {ts : Addr → Value → Option Addr → TS} {b₀ : Stmt} {suite : List Stmt} {np pos' : Pos} {hds : List ExceptHandler} {l : List Clause} (hi : X.N[i]? = some n) (hln : X.env.kindOf n = some .local) (hc : Names X x c)
      (hsu : ∀ (a : Addr) (oe : Obj) (cls : Value) (d : Option Addr) (pn : List (Addr × Obj)), Zc cls d oe → (∃ vs, oe.data = .fields vs) → PSs (X.suite a ((a, oe) :: pn)) (b₀ :: suite) (ts a cls d)) (r : MixOk X hds l) :
      MixOk X (.ExceptHandler (some (.Name x np)) (some n) (b₀ :: suite) pos' :: hds) ((c, some i, ts) :: l)
section
variable {X : Cx} {body : List Stmt} {h₀ : ExceptHandler} {hds : List ExceptHandler} {l : List Clause} {pos : Pos} {tb : WX → TS} {Wout : WX}
theorem ps_try_mix (hs : X.stack = X.env :: X.outer) (hf : X.env.frame = some X.env.locals) (hN : X.N.Nodup) (tk : L2.Takes X Wout)
    (hb : ∀ (W : WX) (pn : List (Addr × Obj)) (xe : Value → Shared → Prop), L2.Takes (X.tr pn xe) W → PassesOwn (model X.prog X.w) X.A X.env xe → PSs (X.tr pn xe) body (tb W))
    (hh : MixOk X (h₀ :: hds) l) : PS X (.Try body (h₀ :: hds) [] [] pos) (fun D σ H => tb (wMix X.K Wout D l) D σ H) := by
  refine ⟨fun pins s σ H D I h => ?_⟩
  have ok := I.ok
  have hfr : X.A.frames = some (X.env :: X.outer) := by rw [ok.frames, hs]
  refine wpAny_Try_except ?_
  refine wpAny_mono ((hb (wMix X.K Wout D l) (X.pn ++ pins) (fun e s₁ => wpAny (model X.prog X.w) X.A (noteFrame e X.env) (fun _ s₂ => wpAny (model X.prog X.w) X.A (setFlight e none) (fun _ s₃ =>
    wpAny (model X.prog X.w) X.A (handleBy e X.env (h₀ :: hds)) (SP X pins D) X.xe s₃) X.xe s₂) X.xe s₁) (fun u s' xx => ?_) PassesOwn.looking).run [] s σ H D (I.toTry _) h) (fun f s1 hsp => ?_) (fun e s1 he => he)
  · obtain ⟨a, B, sI, pins', σ', H', cls, d, rfl, J', nb, up, sky, na, os, ag, w⟩ := xx
    have J : Inv X pins σ' H' sI := J'.ofTry ok
    have sky' : Sky B (X.env :: X.outer) a (Zc cls d) X.env.locals s'.heap := by rw [← hs]; exact sky
    show wpAny (model X.prog X.w) X.A (noteFrame (.ref a) X.env) _ _ _
    refine Sky.land Zc.steady hfr hf sky' fun h3 fl3 up3 => ?_
    have J3 : Inv X pins σ' H' { s' with heap := h3 } := J.landed nb fl3.1 (up.trans up3) os ag
    obtain ⟨oe3, vs3, he3, hz3, hd3⟩ := fl3.there
    have nfr : a ∉ frs (X.env :: X.outer) := fun hm => by
      obtain ⟨_, o', e', hnf⟩ := fl3.2.2.1.mem hm
      rw [he3] at e'; cases e'
      exact hnf _ hd3
    have nL : a ≠ X.env.locals := fun z => nfr (List.mem_filterMap.mpr ⟨X.env, List.mem_cons_self, by rw [hf, z]⟩)
    have nF : a ∉ X.fs := fun hm => by
      obtain ⟨e, he, q⟩ := List.mem_filterMap.mp hm
      exact nfr (List.mem_filterMap.mpr ⟨e, List.mem_cons_of_mem _ he, q⟩)
    have S3 := J3.suite he3 hd3 na nL nF
    have LT : PySem.W.Looks (model X.prog X.w) h3 (typeOf (.ref a)) cls := fun A Q E s k q => wpAny_typeOf_ref (k _ _ he3) (by rw [hz3.1]; exact q)
    have test : ∀ {x : Str} {c : Value} {np : Pos} {Q : Value → Shared → Prop} {E : Value → Shared → Prop}, Names X x c → Q c { s' with heap := h3 } → wpAny (model X.prog X.w) (X.A.mark (some (.ref a))) (eval (.Name x np) X.env) Q E { s' with heap := h3 } := fun {x c np Q E} hc q => by
      obtain ⟨hg, hdbg, hm | ⟨hm, hv, hnn⟩⟩ := hc
      · exact ld_glob (X := X.suite a ((a, oe3) :: (X.pn ++ pins))) S3 hg hm q hdbg
      · exact ld_blt (X := X.suite a ((a, oe3) :: (X.pn ++ pins))) S3 hg hm hv q hnn hdbg
    have go : ∀ {hds' : List ExceptHandler} {l' : List Clause}, MixOk X hds' l' → wMix X.K Wout D l' cls d σ' H' →
        wpAny (model X.prog X.w) X.A (handleBy (.ref a) X.env hds') (SP X pins D) X.xe { s' with heap := h3 } := by
      intro hds' l' hk
      induction hk with
      | nil =>
        intro w
        refine wpAny_handleBy_nil ?_
        obtain ⟨k1, k2, k3, oe, vs, T, oT, ts', he, hz, hd, h1, hr⟩ := id fl3
        unfold PySem.passOn
        refine wpAny_bind (wpAny_field he hd h1 ?_)
        rw [if_neg (show ¬ ((Value.ref T == Value.none) = true) from by simp)]
        have fin : wpAny (model X.prog X.w) X.A (setFlight (.ref a) X.env.frame) (fun _ s4 => wpAny (model X.prog X.w) X.A (throw (.ref a) : Sem Flow) (SP X pins D) X.xe s4) X.xe { s' with heap := h3 } := by
          rw [hf]
          refine HandSPX.setFlight_upZ fl3 fun h4 hh4 up4 => wpAny_throw (tk _ _ ?_)
          exact ⟨a, B, sI, pins, σ', H', cls, d, rfl, J, nb, (up.trans up3).trans up4, .inr (.inr (by rw [hs]; exact hh4)), na, os, ag, w⟩
        first
          | exact wpAny_bind (wpAny_pure (wpAny_bind fin))
          | exact wpAny_bind fin
      | @plain x c ts b₀ suite np pos' hds2 l2 hc hsu r ih =>
        intro w
        obtain ⟨b, hb1, hyes, hno⟩ := w
        refine wpAny_handleBy_cons (codeAny_handlers_test ?_) (by intro q; cases q)
        have LM := PySem.W.exm_one (M := model X.prog X.w) (J3.kIn) LT hb1
        refine test hc (LM.here ?_)
        cases b with
        | true =>
          refine codeAny_handlers_suite ?_
          refine HandSPX.lands_againZ fl3 fun h4 fl4 up4 => ?_
          have J4 : Inv X pins σ' H' { s' with heap := h4 } := J.landed nb fl4.1 ((up.trans up3).trans up4) os ag
          obtain ⟨oe4, vs4, he4, hz4, hd4⟩ := fl4.there
          have S4 := J4.suite he4 hd4 na nL nF
          refine wpAny_mono ((hsu a oe4 cls d (X.pn ++ pins) hz4 ⟨_, hd4⟩).run [] _ _ H' _ S4 (hyes rfl a na)) (fun f s6 hsp => ?_) (fun _ _ z => False.elim z)
          cases f with
          | ret u =>
            obtain ⟨v6, σ6, H6, S6, r6, q6⟩ := hsp
            exact ⟨_, _, _, S6.unsuite ok, r6, q6⟩
          | _ =>
            obtain ⟨σ6, H6, S6, q6⟩ := hsp
            exact ⟨_, _, S6.unsuite ok, q6⟩
        | false =>
          show wpAny _ X.A (handleBy (.ref a) X.env hds2) _ _ _
          exact ih (hno rfl)
      | @named x n c i ts b₀ suite np pos' hds2 l2 hi hln hc hsu r ih =>
        intro w
        obtain ⟨b, hb1, hyes, hno⟩ := w
        refine wpAny_handleBy_cons (codeAny_handlers_test ?_) (by intro q; cases q)
        have LM := PySem.W.exm_one (M := model X.prog X.w) (J3.kIn) LT hb1
        refine test hc (LM.here ?_)
        cases b with
        | true =>
          refine codeAny_handlers_suite_as ?_
          refine HandSPX.lands_againZ fl3 fun h4 fl4 up4 => ?_
          have J4 : Inv X pins σ' H' { s' with heap := h4 } := J.landed nb fl4.1 ((up.trans up3).trans up4) os ag
          obtain ⟨oe4, vs4, he4, hz4, hd4⟩ := fl4.there
          have S4 := J4.suite he4 hd4 na nL nF
          refine store_ok (X := X.suite a ((a, oe4) :: (X.pn ++ pins))) (v := .ref a) S4 hN hi (.inl hln) rfl (fun s5 S5 => ?_) (.inr hln)
          refine wpAny_mono ((hsu a oe4 cls d (X.pn ++ pins) hz4 ⟨_, hd4⟩).run [] s5 _ H' _ S5 (hyes rfl a na)) (fun f s6 hsp => ?_) (fun _ _ z => False.elim z)
          have end_ : ∀ {σ6 : St} {H6 : Hp} {Q : Shared → Prop}, Inv (X.suite a ((a, oe4) :: (X.pn ++ pins))) [] σ6 H6 s6 → (∀ s7, Inv X pins (σ6.set i none) H6 s7 → Q s7) →
              wpAny (model X.prog X.w) X.A (do bindName X.env n .none; unbindBehindTheSuite X.env n pos') (fun _ s7 => Q s7) X.xe s6 := fun {σ6 H6 Q} S6 hq => gone_ok (S6.unsuite ok) hN hi hln hq
          cases f with
          | ret u =>
            obtain ⟨v6, σ6, H6, S6, r6, q6⟩ := hsp
            exact end_ S6 fun s7 J7 => ⟨_, _, _, J7, r6, q6⟩
          | _ =>
            obtain ⟨σ6, H6, S6, q6⟩ := hsp
            exact end_ S6 fun s7 J7 => ⟨_, _, J7, q6⟩
        | false =>
          show wpAny _ X.A (handleBy (.ref a) X.env hds2) _ _ _
          exact ih (hno rfl)
    exact go hh w
  · cases f with
    | next =>
      obtain ⟨σ', H', J', q⟩ := hsp
      exact wpAny_execs_nil ⟨σ', H', J'.ofTry ok, q⟩
    | ret u =>
      obtain ⟨v, σ', H', J', r, q⟩ := hsp
      exact ⟨v, σ', H', J'.ofTry ok, r, q⟩
    | _ =>
      obtain ⟨σ', H', J', q⟩ := hsp
      exact ⟨σ', H', J'.ofTry ok, q⟩
end
end BB

namespace BB
open PySem PySem.Spec PyProof.Rows L2
/-! try -/
def Tab.wx (T : Tab) (o : Option (Addr × Value × Option Addr)) : Tab := ⟨T.f, T.c, T.o, o⟩
section
variable {T : Tab} {K : PySem.W.Frag} {o : Option (Addr × Value × Option Addr)} {G : Gh} {H : Hp} {B : Bs} {s : S} {σ : St}
theorem RV.wx {v : V} {d : D} (h : RV T K G H v d) : RV (T.wx o) K G H v d := by
  refine RV.rec (motive_1 := fun v d _ => RV (T.wx o) K G H v d) (motive_2 := fun vs ds _ => RVs (T.wx o) K G H vs ds) (motive_3 := fun vs ds _ => RKs (T.wx o) K G H vs ds) (motive_4 := fun vs ds _ => RTs (T.wx o) K G H vs ds)
    ?_ ?_ ?_ ?_ ?_ ?_ ?_ ?_ ?_ ?_ ?_ ?_ ?_ ?_ ?_ ?_ ?_ ?_ ?_ h
  · exact .non
  · exact fun b => .bl b
  · exact fun b => .int b
  · exact fun b => .str b
  · exact fun b => .ty b
  · exact fun b => .fn (T := T.wx o) b
  · exact fun q _ ih => .tup q ih
  · exact fun q _ ih => .ktup q ih
  · exact fun f q _ ih => .lst f q ih
  · exact fun f q _ ih => .dcK f q ih
  · exact fun f q _ ih => .dcT f q ih
  · exact fun q => .ref q
  · exact fun q _ ih => .scr q ih
  · exact .nil
  · exact fun _ _ i j => .cons i j
  · exact .nil
  · exact fun e _ _ i j => .cons e i j
  · exact .nil
  · exact fun e _ _ i j => .cons e i j
theorem RVs.wx : ∀ {vs : List V} {ds : List D}, RVs T K G H vs ds → RVs (T.wx o) K G H vs ds
  | _, _, .nil => .nil
  | _, _, .cons r t => .cons r.wx (RVs.wx t)
theorem RKs.wx : ∀ {vs : List (Key × V)} {ds : List (D × D)}, RKs T K G H vs ds → RKs (T.wx o) K G H vs ds
  | _, _, .nil => .nil
  | _, _, .cons e r t => .cons e r.wx (RKs.wx t)
theorem RTs.wx : ∀ {vs : List (List Key × V)} {ds : List (D × D)}, RTs T K G H vs ds → RTs (T.wx o) K G H vs ds
  | _, _, .nil => .nil
  | _, _, .cons e r t => .cons e r.wx (RTs.wx t)
theorem RFs.wx : ∀ {vs : List (Str × V)} {ds : List (Str × D)}, RFs T K G H vs ds → RFs (T.wx o) K G H vs ds
  | _, _, .nil => .nil
  | _, _, .cons r t => .cons r.wx (RFs.wx t)
theorem ExR.wx {n : Nat} {fs : List (Str × D)} {cls : Value} {d : Option Addr} (h : ExR T K n fs cls d G H) : ExR (T.wx o) K n fs cls d G H :=
  ⟨h.1, h.2.imp id fun ⟨ne, dd, fv, e, e2, r⟩ => ⟨ne, dd, fv, e, e2, r.wx⟩⟩
theorem BxR.wx {a : Addr} {x : Bx} (h : BxR T K G H a x) : BxR (T.wx o) K G H a x := by
  cases h with
  | ls e q => exact .ls e q.wx
  | dcK e q => exact .dcK e q.wx
  | dcT e q => exact .dcT e q.wx
  | lkl e q => exact .lkl e q.wx
  | lkK e q => exact .lkK e q.wx
  | lkT e q => exact .lkT e q.wx
  | ins e q => exact .ins (T := T.wx o) e q.wx
theorem RelC.wx {st : Sto} (h : RelC T K G st H) : RelC (T.wx o) K G st H := ⟨h.len, fun i x a e1 e2 => (h.bx i x a e1 e2).wx, h.nd, h.ioF, h.Fd⟩
theorem SlotR.wx {u : Option (Option V)} {x : Slot} (h : SlotR T K G H u x) (n : ∀ c fs, x ≠ .xo c fs) : SlotR (T.wx o) K G H u x := by
  cases h with
  | no => exact .no _
  | va q => exact .va q.wx
  | ol e q => exact .ol e q.wx
  | odK e q => exact .odK e q.wx
  | odT e q => exact .odT e q.wx
  | xo e q => exact absurd rfl (n _ _)
theorem Rel.wx (h : Rel T K B G s σ H) (n : ∀ (i : Nat) (c : Nat) (fs : List (Str × D)), s.env[i]? ≠ some (.xo c fs)) : Rel (T.wx o) K B G s σ H :=
  ⟨h.len, fun i x e => (h.sl i x e).wx fun c fs z => n i c fs (z ▸ e), h.own1, h.own2, h.c.wx, h.b⟩
theorem Rel.nox (h : Rel T K B G s σ H) (hx : T.x = none) : ∀ (i : Nat) (c : Nat) (fs : List (Str × D)), s.env[i]? ≠ some (.xo c fs) := fun i c fs e => by
  have z := h.sl i _ e
  cases q : σ[i]? with
  | none => rw [q] at z; cases z
  | some u => rw [q] at z; cases z with | xo e1 _ => rw [hx] at e1; cases e1
theorem noXo_of {l : List Slot} (h : noXo l = true) : ∀ (i : Nat) (c : Nat) (fs : List (Str × D)), l[i]? ≠ some (.xo c fs) := fun i c fs e => by
  have := List.all_eq_true.mp h _ (List.mem_of_getElem? e)
  cases this
theorem own_setn {i j : Nat} {a : Addr} (h : Own (setE s i .no) (σ.set i none) j a) : Own s σ j a ∧ i ≠ j := by
  obtain ⟨⟨x, e, ho⟩, e2⟩ := h
  by_cases hij : i = j
  · subst hij
    rw [setE_get] at e
    split at e
    · split at e
      · injection e with e; subst e; cases ho
      · cases e
    · rename_i z; exact absurd rfl z
  · rw [List.getElem?_set_ne hij] at e2
    rw [setE_get] at e
    split at e
    · rename_i z; exact absurd z hij
    · exact ⟨⟨⟨x, e, ho⟩, e2⟩, hij⟩
theorem Rel.cleared {i : Nat} (hR : Rel T K B G s σ H) : Rel T K B G (setE s i .no) (σ.set i none) H := by
  refine ⟨by show (s.env.set i _).length = _; rw [List.length_set, List.length_set]; exact hR.len, fun j y e => ?_, fun a ⟨j, h⟩ => hR.own1 a ⟨j, (own_setn h).1⟩, fun j l a h1 h2 => hR.own2 j l a (own_setn h1).1 (own_setn h2).1, hR.c, hR.b⟩
  rw [setE_get] at e
  split at e
  · split at e
    · injection e with e; subst e; exact .no _
    · cases e
  · rename_i hij
    rw [List.getElem?_set_ne hij]
    exact hR.sl j y e
end
section
variable {PG : Prog} {nm : Nat → Str} {T : Tab} {N : List Str} {k : Nat} {X : Cx} {sc : Scope} {B : Bs} {W : WX}
theorem hmg_of (h : Mg X PG nm T) (o : Option (Addr × Value × Option Addr)) : HMg X.K X.mg PG (T.wx o) where
  cst := fun n x dd e => let ⟨u, v, m1, m2, m3⟩ := h.cst n x dd e; ⟨u, v, m1, m2, fun G H => (m3 G H).wx⟩
  cls := fun n x e => ⟨(h.cls n x e).1, (h.cls n x e).2.ex⟩
  sub := fun n m x y e1 e2 => (h.sub n m x y e1 e2).2
  xcl := h.xcl
  isi := h.bi .isi
  vle := h.vle
  vln := h.vln
  iti := h.bi .int
/-- what holds in the suite behind a catch -/
theorem hcx (h : Cxt X PG nm T N sc k) {a : Addr} {oe : Obj} {cls : Value} {d : Option Addr} {pn : List (Addr × Obj)} (hz : Zc cls d oe) (hf : ∃ vs, oe.data = .fields vs) : HCxt (X.suite a ((a, oe) :: pn)) PG nm (T.wx (some (a, cls, d))) N sc k true where
  N := h.N
  sc := h.sc
  nd := h.nd
  hu := h.hu
  cst := fun n x dd e => let ⟨u, v, m1, m2, m3⟩ := h.mg.cst n x dd e; ⟨u, v, m1, m2, fun G H => (m3 G H).wx⟩
  cls := fun n x e => (h.mg.cls n x e).1
  sub := fun n m x y e1 e2 => (h.mg.sub n m x y e1 e2).2
  isi := h.mg.bi .isi
  xcl := h.mg.xcl
  xf := fun _ a' c d' f q e te p e1 hq hb he ⟨y, hy⟩ => by
    have e1 : some (a, cls, d) = some (a', Value.ref (T.c c), d') := e1
    cases e1
    have E := (h.mg.cls c y hy).2.ex
    exact pe_xf ⟨E.hg, E.hk, E.hs, E.hd⟩ (h.mg.xin c f q hq).no hz hf he hb
  isE := fun a' c d' x e hc => by
    have e : some (a, cls, d) = some (a', Value.ref (T.c c), d') := e
    cases e
    exact ⟨call_isG (X := X.suite a ((a, oe) :: pn)) List.mem_cons_self (h.mg.cls c x hc).2.ex hz hf, call_isT (X := X.suite a ((a, oe) :: pn)) List.mem_cons_self (h.mg.cls c x hc).2.ex hz hf⟩
  vle := h.mg.vle
  vln := h.mg.vln
  iti := h.mg.bi .int
  hc := fun _ n f x e te pf p h0 h1 hn hne hg hdb he hst => by
    have F := h.mg.hot n f h0 h1
    have F' : HFn X.K X.mg PG nm (T.wx (some (a, cls, d))) n f := ⟨F.ex, F.at_, F.kp⟩
    have rm : L2H.RoomH 1 (X.suite a ((a, oe) :: pn)).A := ⟨by have := h.room.dp; show X.A.depth + 3 * 1 + 5 < _; omega, by have := h.room.un; show X.A.units + 16 * 1 + 200 < _; omega⟩
    exact pe_hot (X := X.suite a ((a, oe) :: pn)) (hmg_of h.mg (some (a, cls, d))) F' h0 h1 rm List.mem_cons_self hz hf rfl hn hne hg hdb he hst
def suF (PG : Prog) (cal : Nat → List D → Sto → CR) (c : CS) (su : CB) (s : S) : Fl := match exs PG cal c s with
  | .nx s1 => exb PG cal su s1
  | f => f
def hdl (T : Tab) (K : PySem.W.Frag) (B : Bs) (PG : Prog) (cal : Nat → List D → Sto → CR) : CH → List Clause
  | .nil => []
  | .cons n _ _ c su _ r => (.ref (T.c n), none, fun a cls d => tS (T.wx (some (a, cls, d))) K B W0 (suF PG cal c su)) :: hdl T K B PG cal r
  | .as_ n _ _ i _ c su _ r => (.ref (T.c n), some i, fun a cls d => tS (T.wx (some (a, cls, d))) K B W0 (suF PG cal c su)) :: hdl T K B PG cal r
theorem hds_ok (h : Cxt X PG nm T N sc k) (hf : X.fn = fun _ => true) : ∀ hs : CH, okH PG nm N sc hs = true → MixOk X hs.up (hdl T X.K B PG (cal PG k) hs)
  | .nil, _ => .nil
  | .cons n x px c su p r, o => by
    obtain ⟨o1, o2, o3, o4, o5⟩ := a5 o
    obtain ⟨g1, g2, g3⟩ := gl_of h o1
    exact .plain ⟨g1, g2, .inl (h.mg.cls n x (of_decide_eq_true o2)).1⟩ (fun a oe cls d pn hz hv => sB_cons (hsndS c _ sc B W0 (hcx h hz hv) hf o3) (hsndB su _ sc B W0 (hcx h hz hv) hf o4)) (hds_ok h hf r o5)
  | .as_ n x px i y c su p r, o => by
    obtain ⟨o1, o2, o3, o4, o5⟩ := a5 o
    obtain ⟨o5, o6, o7⟩ := a3 o5
    obtain ⟨g1, g2, g3⟩ := gl_of h o1
    have hk : X.env.kindOf y = some .local := by
      show X.env.scope.names.lookup y = _
      rw [h.sc]; exact kd_of o6
    exact .named (by rw [h.N]; exact of_decide_eq_true o5) hk ⟨g1, g2, .inl (h.mg.cls n x (of_decide_eq_true o2)).1⟩ (fun a oe cls d pn hz hv => sB_cons (hsndS c _ sc B W0 (hcx h hz hv) hf o3) (hsndB su _ sc B W0 (hcx h hz hv) hf o4)) (hds_ok h hf r o7)
theorem suite_at {De : Ends} {K : PySem.W.Frag} {f : S → Fl} {s : S} {σ : St} {G : Gh} {H : Hp} (hx : T.x = none) (hR : Rel T K B G s σ H) (o : Option (Addr × Value × Option Addr)) (q : FAt T K B W (aftS (f s)) G H De) : tS (T.wx o) K B W0 f De σ H := by
  refine ⟨G, s, hR.wx (hR.nox hx), ?_⟩
  revert q
  cases f s with
  | nx s1 =>
    show FAt T K B W (if noXo s1.env = true then .nx s1 else .bad) G H De → _
    split
    · rename_i hn
      exact fun q G' σ' H' P R => q G' σ' H' P (show Rel ((T.wx o).wx T.x) K B G' s1 σ' H' from R.wx (noXo_of hn))
    · exact fun q => q.elim
  | bk s1 => exact fun q => q.elim
  | ct s1 => exact fun q => q.elim
  | rt r s1 => exact fun q => q.elim
  | ex n fs s1 => exact fun q => q.elim
  | bad => exact fun q => q.elim
theorem mix_at (h : Cxt X PG nm T N sc k) {De : Ends} : ∀ (hs : CH), okH PG nm N sc hs = true → ∀ {c : Nat} {fs : List (Str × D)} {s : S} {σ : St} {G : Gh} {H : Hp} {cls : Value} {d : Option Addr}, Rel T X.K B G s σ H → ExR T X.K c fs cls d G H →
    FAt T X.K B W (exh PG (cal PG k) hs c fs s) G H De → wMix X.K W De (hdl T X.K B PG (cal PG k) hs) cls d σ H
  | .nil, _, c, fs, s, σ, G, H, cls, d, R, x, q => q G σ H cls d (.refl _ _) R x
  | .cons n y px c1 su p r, o, c, fs, s, σ, G, H, cls, d, R, x, q => by
    obtain ⟨o1, o2, o3, o4, o5⟩ := a5 o
    have q : FAt T X.K B W (if (PG.cls[c]?).isSome = true then (if PG.sub c n = true then aftS (suF PG (cal PG k) c1 su s) else exh PG (cal PG k) r c fs s) else .bad) G H De := q
    split at q
    · rename_i hc
      obtain ⟨xc, hc⟩ := Option.isSome_iff_exists.mp hc
      have m := (h.mg.sub c n xc y hc (of_decide_eq_true o2)).1
      refine ⟨PG.sub c n, by rw [x.1]; exact m, fun hb a ha => ?_, fun hb => ?_⟩
      · rw [if_pos hb] at q
        exact suite_at h.nx R _ q
      · rw [if_neg (by rw [hb]; decide)] at q
        exact mix_at h r o5 R x q
    · exact q.elim
  | .as_ n y px i y2 c1 su p r, o, c, fs, s, σ, G, H, cls, d, R, x, q => by
    obtain ⟨o1, o2, o3, o4, o5⟩ := a5 o
    obtain ⟨_, _, o7⟩ := a3 o5
    have q : FAt T X.K B W (if (PG.cls[c]?).isSome = true then (if PG.sub c n = true then aftA i (suF PG (cal PG k) c1 su (setE s i (.xo c fs))) else exh PG (cal PG k) r c fs s) else .bad) G H De := q
    split at q
    · rename_i hc
      obtain ⟨xc, hc⟩ := Option.isSome_iff_exists.mp hc
      have m := (h.mg.sub c n xc y hc (of_decide_eq_true o2)).1
      refine ⟨PG.sub c n, by rw [x.1]; exact m, fun hb a ha => ?_, fun hb => ?_⟩
      · rw [if_pos hb] at q
        refine ⟨G, setE s i (.xo c fs), (R.wx (R.nox h.nx)).stored (v := .ref a) (.xo rfl x.wx) (fun z => Bool.noConfusion z), ?_⟩
        revert q
        cases suF PG (cal PG k) c1 su (setE s i (.xo c fs)) with
        | nx s1 =>
          show FAt T X.K B W (if noXo (s1.env.set i .no) = true then .nx (setE s1 i .no) else .bad) G H De → _
          split
          · rename_i hn
            exact fun q G' σ' H' P R => q G' (σ'.set i none) H' P (show Rel ((T.wx (some (a, cls, d))).wx T.x) X.K B G' (setE s1 i .no) (σ'.set i none) H' from R.cleared.wx (noXo_of hn))
          · exact fun q => q.elim
        | bk s1 => exact fun q => q.elim
        | ct s1 => exact fun q => q.elim
        | rt r s1 => exact fun q => q.elim
        | ex n fs s1 => exact fun q => q.elim
        | bad => exact fun q => q.elim
      · rw [if_neg (by rw [hb]; decide)] at q
        exact mix_at h r o7 R x q
    · exact q.elim
/-- a try -/
theorem sS_try (h : Cxt X PG nm T N sc k) (hf : X.fn = fun _ => true) (st : X.stack = X.env :: X.outer ∧ X.env.frame = some X.env.locals) (tk : L2.Takes X W) {b : CB} {hs : CH} {p : Pos} (hp : hs.ok = true) (o : okH PG nm N sc hs = true)
    (hb : ∀ (W : WX) (pn : List (Addr × Obj)) (xe : Value → Shared → Prop), L2.Takes (X.tr pn xe) W → PassesOwn (model X.prog X.w) X.A X.env xe → PSs (X.tr pn xe) b.up (tS T X.K B W (exb PG (cal PG k) b))) :
    PS X (.Try b.up hs.up [] [] p) (tS T X.K B W (exs PG (cal PG k) (.try_ b hs p))) := by
  have fin : ∀ {h0 : ExceptHandler} {hd : List ExceptHandler}, hs.up = h0 :: hd → PS X (.Try b.up hs.up [] [] p) (tS T X.K B W (exs PG (cal PG k) (.try_ b hs p))) := fun {h0 hd} e => by
    have M := hds_ok (B := B) h hf hs o
    rw [e] at M
    rw [e]
    refine ps_imp (ps_try_mix st.1 st.2 h.nd tk hb M) fun De σ H ⟨G, s, hR, z⟩ => ⟨G, s, hR, ?_⟩
    have z : FAt T X.K B W (match exb PG (cal PG k) b s with
      | .ex c' fs s1 => exh PG (cal PG k) hs c' fs s1
      | f => f) G H De := z
    revert z
    cases exb PG (cal PG k) b s with
    | ex c' fs s1 => exact fun z G' σ' H' cls d P R e => mix_at h hs o R e (z.mono P)
    | nx s1 => exact fun z => z
    | bk s1 => exact fun z => z
    | ct s1 => exact fun z => z
    | rt r s1 => exact fun z => z
    | bad => exact fun z => z
  cases hs with
  | nil => exact Bool.noConfusion hp
  | cons n x px c su q r => exact fin rfl
  | as_ n x px i y c su q r => exact fin rfl
end
end BB

namespace BB
open PySem PySem.Spec PyProof.Rows L2
/-! text.replace of written texts: behind a written text, so that a token is given out -/
section
variable {T : Tab} {B : Bs} {W : WX} {X : Cx}
theorem pet_rep {j k1 k2 : Nat} {y c1 c2 : Str} {py q1 q2 pa pc : Pos} (hN : X.N[j]? = some y) (hv : Vis X.env.scope y) (hd : (y == ("__debug__" : Str)) = false) (hcd : (y == ("__classdict__" : Str)) = false) (hne : (c1 == c2) = false) (hline : (pa.endLine == pc.line) = true) :
    PET X (.Call (.Attribute (.Name y py) "replace" pa) [.Constant (.str c1) k1 q1, .Constant (.str c2) k2 q2] [] pc) (tE T X.K B W (repR j c1 c2)) := by
  intro pins s σ H Q h0 I ⟨G, S0, hR, q⟩
  unfold repR at q
  cases e : S0.env[j]? with
  | none => rw [e] at q; exact q.elim
  | some x =>
    rw [e] at q
    cases x with
    | va d =>
      cases d with
      | str z =>
        dsimp only at q
        split at q
        · rename_i hb
          have hs := hR.sl j _ e
          cases hσ : σ[j]? with
          | none => rw [hσ] at hs; cases hs
          | some o =>
            rw [hσ] at hs
            cases hs with
            | va rv =>
              cases rv
              refine PySem.Call_method2 rfl rfl hline (raw_name hN hv I hσ (fun v r => ?_) hd hcd)
              obtain ⟨tx, er⟩ := r
              subst er
              refine ⟨"str", _, F.plainAttrs_str, F.slot_str_replace, F.type_str_replace, typeIs_str _ _ _, (fun _ e => nomatch e), Calls.callWith_builtin rfl (Calls.evalArgs_plain (Calls.spliced_cons (Calls.Constant_str (Calls.spliced_cons (Calls.Constant_str (Calls.spliced_nil ?_))))))⟩
              refine PySem.SC.replace (show s.toks ≠ 0 by omega) (show s.toks + 1 ≠ 0 by omega) (show s.toks ≠ s.toks + 1 by omega) hne hb fun t' k => ⟨.str (Txt.replace z c1 c2), H, I.tok k, ⟨t', rfl⟩, q G H _ (Stp.refl _ _ _ _) hR (.va (.str _))⟩
        · exact q.elim
      | _ => exact q.elim
    | _ => exact q.elim
theorem pst_rep {i j k1 k2 : Nat} {x y c1 c2 : Str} {px py q1 q2 pa pc p : Pos} (hD : X.N.Nodup) (hi : X.N[i]? = some x) (hx : Loc X.env.scope x) (hf : X.fn x = true ∨ X.env.scope.names.lookup x = some .local) (hN : X.N[j]? = some y) (hv : Vis X.env.scope y) (hd : (y == ("__debug__" : Str)) = false) (hcd : (y == ("__classdict__" : Str)) = false) (hne : (c1 == c2) = false) (hline : (pa.endLine == pc.line) = true) :
    PST X (.Assign [.Name x px] (.Call (.Attribute (.Name y py) "replace" pa) [.Constant (.str c1) k1 q1, .Constant (.str c2) k2 q2] [] pc) p) (tS T X.K B W fun s => (repR j c1 c2 s).fl fun r s1 => match keepR r with
    | some d => .nx (setE s1 i (.va d))
    | none => .bad) := by
  intro pins s σ H D h0 I ⟨G, S0, hR, q⟩
  have he := pet_rep (T := T) (B := B) (W := W) (k1 := k1) (k2 := k2) (py := py) (q1 := q1) (q2 := q2) hN hv hd hcd hne hline
  refine wpAny_Assign_Name (thn (he pins s σ H (fun v H1 => D.nx (σ.set i (some v)) H1) h0 I ⟨G, S0, hR, ?_⟩) fun v s1 ⟨y, H1, I1, r1, q1⟩ => ?_) rfl
  · refine f_bind (P := PR T X.K B) q (.refl _ _) fun r s1 G1 H1 v st p1 R1 r1 q1 => ?_
    split at q1
    · rename_i d hk
      obtain ⟨G2, st2, R2, rv, P2⟩ := keep1p R1 st r1 hk
      exact q1 _ _ _ P2 (R2.stored (.va rv) fun z => by cases z)
    · exact q1.elim
  · exact store_ok I1 hD hi hx r1 (fun s2 I2 => ⟨_, H1, I2, q1⟩) hf
/-- x = '..'[i]: a token is out -/
theorem tok_out {A : Around} {x c : Str} {k : Nat} {px cp ip p : Pos} {e : Expr} {env : Env} {M : Model} {Q : Flow → Shared → Prop} {E : Value → Shared → Prop} {s : Shared} (hs : swapsWith (.Subscript (.Constant (.str c) k cp) e ip) (some (.Name x px)) p.line env = pure false)
    (h : wpAny M A (exec (.Assign [.Name x px] (.Subscript (.Constant (.str c) k cp) e ip) p) env) Q E s) : wpAny M A (exec (.Assign [.Name x px] (.Subscript (.Constant (.str c) k cp) e ip) p) env) (fun f s' => 1 ≤ s'.toks ∧ Q f s') E s := by
  intro Γ pp hΓ
  have h := h Γ pp hΓ
  rw [exec_Assign_Name env x px _ p hs, Sem.wp_bind', Sem.wp_cmd_standAt, Sem.wp_bind', PySem.eval_Subscript, Sem.wp_bind'] at h ⊢
  have key : ∀ (g : Value → Sem Value) (f : Value → Sem Flow) (Q1 : Flow → Pos → Shared → Prop) (E1 : Value → Pos → Shared → Prop) (p' : Pos) (s' : Shared), 1 ≤ s'.toks → ∀ a, Sem.wp M Γ (g a) (fun v p2 s2 => Sem.wp M Γ (f v) Q1 E1 p2 s2) E1 p' s' →
      Sem.wp M Γ (g a) (fun v p2 s2 => Sem.wp M Γ (f v) (fun w p3 s3 => 1 ≤ s3.toks ∧ Q1 w p3 s3) E1 p2 s2) E1 p' s' := by
    intro g f Q1 E1 p' s' h1 a hh
    rw [← Sem.wp_bind'] at hh ⊢
    exact Sem.wp_mono M Γ _ (fun _ _ _ z => z) (fun _ _ _ z => z.2) _ _ (Sem.wp_toks M Γ 1 _ _ _ p' s' h1 hh)
  exact key (fun o => do
    let i ← holding [o] (eval e env)
    standAt ip
    let r ← subscripted e (← getitemInPython o) o i
    letTemporaryGo (.Constant (.str c) k cp) o r
    pure r) (fun v => do
    standAt px
    bindName env x v
    pure Flow.next) _ _ p { s with toks := s.toks + 1 } (Nat.succ_le_succ (Nat.zero_le _)) (.str c s.toks) h
theorem sT_cons {st : Stmt} {rest : List Stmt} {f g : S → Fl} (h1 : PST X st (tS T X.K B W f)) (h2 : PSsT X rest (tS T X.K B W g)) : PSsT X (st :: rest) (tS T X.K B W fun s => match f s with
    | .nx s1 => g s1
    | f => f) := fun pins s σ H D h0 I h => psst_cons h1 h2 pins s σ H D h0 I (by
  obtain ⟨G, s, hR, q⟩ := h
  refine ⟨G, s, hR, ?_⟩
  revert q
  dsimp only
  cases f s with
  | nx s1 => exact fun q G' σ' H' p R' => ⟨G', s1, R', q.mono p⟩
  | rt r s1 => exact fun q => q
  | bk s1 => exact fun q => q
  | ct s1 => exact fun q => q
  | ex n fs s1 => exact fun q => q
  | bad => exact fun q => q)
theorem swap_tok {c : CS} (o : isTokM c = true) (env : Env) : ∃ x cc k px cp e ip p, c.up = .Assign [.Name x px] (.Subscript (.Constant (.str cc) k cp) e ip) p ∧ swapsWith (.Subscript (.Constant (.str cc) k cp) e ip) (some (.Name x px)) p.line env = pure false := by
  unfold isTokM at o
  split at o
  · exact ⟨_, _, _, _, _, _, _, _, rfl, rfl⟩
  · cases o
theorem sB_tok {c : CS} {rest : List Stmt} {f g : S → Fl} (o : isTokM c = true) (h1 : PS X c.up (tS T X.K B W f)) (h2 : PSsT X rest (tS T X.K B W g)) (sw : ∃ x cc k px cp e ip p, c.up = .Assign [.Name x px] (.Subscript (.Constant (.str cc) k cp) e ip) p ∧ swapsWith (.Subscript (.Constant (.str cc) k cp) e ip) (some (.Name x px)) p.line X.env = pure false) : PSs X (c.up :: rest) (tS T X.K B W fun s => match f s with
    | .nx s1 => g s1
    | f => f) := by
  obtain ⟨x, cc, k, px, cp, e, ip, p, eu, hs⟩ := sw
  rw [eu] at h1 ⊢
  refine ⟨fun pins s σ H D I h => ?_⟩
  have h' : tSeq (tS T X.K B W f) (tS T X.K B W g) D σ H := by
    obtain ⟨G, s, hR, q⟩ := h
    refine ⟨G, s, hR, ?_⟩
    revert q
    dsimp only
    cases f s with
    | nx s1 => exact fun q G' σ' H' p R' => ⟨G', s1, R', q.mono p⟩
    | rt r s1 => exact fun q => q
    | bk s1 => exact fun q => q
    | ct s1 => exact fun q => q
    | ex n fs s1 => exact fun q => q
    | bad => exact fun q => q
  refine wpAny_execs_cons (wpAny_mono (tok_out hs (h1.run pins s σ H { D with nx := tS T X.K B W g D } I h')) (fun fl s1 q => ?_) fun _ _ z => z)
  obtain ⟨hk, q⟩ := q
  cases fl with
  | next =>
    obtain ⟨σ', H', I', q⟩ := q
    exact h2 pins s1 σ' H' D hk I' q
  | ret v => exact q
  | brk => exact q
  | cont => exact q
end
end BB

namespace BB
open PySem PySem.Spec PyProof.Rows L2
section
variable {PG : Prog} {nm : Nat → Str} {T : Tab} {N : List Str} {k : Nat}
theorem swapsL_of2 (elt : Expr) (g : Comprehension) (scope : Scope) (q : Pos) (x : Str) (px : Pos) (l : Nat) (env : Env) (h1 : env.scope.kind = .function) (h2 : env.scope.names.lookup x = some .local) (h3 : (px.line == q.line) = true)
    (h4 : (!(scope.names.any fun (n, k) => n == x && (k == .local || k == .cell))) = true) : swapsWith (.ListComp elt [g] scope q) (some (.Name x px)) l env = pure true := by
  have e1 : (env.blockKind == ScopeKind.function) = true := by unfold Env.blockKind; rw [h1]; rfl
  have e2 : (env.kindOf x == some NameKind.local) = true := by
    show (env.scope.names.lookup x == some NameKind.local) = true
    rw [h2]; rfl
  show pure (env.blockKind == ScopeKind.function && env.kindOf x == some NameKind.local && px.line == q.line && !(scope.names.any fun (n, k) => n == x && (k == .local || k == .cell))) = _
  rw [e1, e2, h3, h4]; rfl
theorem swapsL_of (elt : C) (tg : Tg) (it : CI) (ifs : CL) (scope : Scope) (own : List (Str × Nat)) (q : Pos) (x : Str) (px : Pos) (l : Nat) (env : Env) (h1 : env.scope.kind = .function) (h2 : env.scope.names.lookup x = some .local) (h3 : (px.line == q.line) = true)
    (h4 : (!(scope.names.any fun (n, k) => n == x && (k == .local || k == .cell))) = true) : swapsWith (C.lc elt tg it ifs scope own q).up (some (.Name x px)) l env = pure true := by
  have e1 : (env.blockKind == ScopeKind.function) = true := by unfold Env.blockKind; rw [h1]; rfl
  have e2 : (env.kindOf x == some NameKind.local) = true := by
    show (env.scope.names.lookup x == some NameKind.local) = true
    rw [h2]; rfl
  show pure (env.blockKind == ScopeKind.function && env.kindOf x == some NameKind.local && px.line == q.line && !(scope.names.any fun (n, k) => n == x && (k == .local || k == .cell))) = _
  rw [e1, e2, h3, h4]; rfl
/-- a walk over a locked thing -/
theorem wkI {X : Cx} {sc : Scope} {B : Bs} {W : WX} (tg : Tg) (w : Wk) (c : C) (pa pc : Pos) (h : Cxt X PG nm T N sc k) (tk : L2.Takes X W) (o1 : okC PG nm N sc false c = true) (o8 : okWk sc w tg pa pc = true) :
    PI X tg.up (wkUp w c.up pa pc) (tI T X.K B W fun s => (ev PG (cal PG k) c s).bind fun r s1 => opt (wkR w r s1) s1) := by
  have hc := (snd c X sc false B W h tk o1).1
  cases tg with
  | nm i x q =>
    refine sI_lk (l := []) (k := 0) (pt := default) (fun z => ?_) (fun z => ?_) hc (base_of c _ _ o1) (base_of c _ _ o1) fun z => ?_
    · rcases z with rfl | rfl <;> cases o8
    · subst z; cases o8
    · rcases z with rfl | rfl
      · exact o8
      · cases o8
  | tp l j q =>
    refine sI_lk (l := l) (k := j) (pt := q) (fun z => rfl) (fun z => by subst z; exact ⟨(gl_of h (a2 (show (isTp (.tp l j q) && okGl sc "enumerate") = true from o8)).2).1, h.mg.enu, nostar c _ _⟩) hc (base_of c _ _ o1) (base_of c _ _ o1) fun z => ?_
    rcases z with rfl | rfl
    · exact o8
    · exact (a2 (show (isTp (.tp l j q) && (pa.endLine == pc.line)) = true from o8)).2
mutual
theorem sndS : ∀ (c : CS) (X : Cx) (sc : Scope) (B : Bs) (W : WX), Cxt X PG nm T N sc k → (X.fn = fun _ => true) → X.env.scope.kind = .function → (X.stack = X.env :: X.outer ∧ X.env.frame = some X.env.locals) → L2.Takes X W → PassesOwn (model X.prog X.w) X.A X.env X.xe → okS PG nm N sc c = true → PS X c.up (tS T X.K B W (exs PG (cal PG k) c))
  | .set i x px c p => fun X sc B W h hf hk st tk hp o => by
      obtain ⟨o1, o2, o3⟩ := a3 o
      have hx := nm_of h (blk := false) (fun _ => hf) o1
      have hc := (snd c X sc false B W h tk o2).1
      cases hl : isLc c with
      | false => exact sS_set h.nd hx.1 hx.2.1 hc (swaps_of c _ _ _ hl) hx.2.2
      | true =>
        cases c <;> first | (cases hl; done) | (rw [hl] at o3; exact Bool.noConfusion (a2 (show (kd sc x .local && false) = true from o3)).2) | skip
        case lc elt tg it ifs scope own q =>
          rw [hl] at o3
          obtain ⟨o4, o5⟩ := a2 (show (kd sc x .local && ((px.line == q.line) && !(scope.names.any fun (n, k) => n == x && (k == .local || k == .cell)))) = true from o3)
          obtain ⟨o5, o6⟩ := a2 o5
          have hloc : X.env.scope.names.lookup x = some .local := by rw [h.sc]; exact kd_of o4
          obtain ⟨oo, o7⟩ := a2 (show (okI PG nm N sc false tg it && blkC N sc scope own && okTgB N scope sc tg && (tgIx tg).all (fun i => decide (i ∈ own.map (·.2))) && okL PG nm N (relS scope sc) true ifs && okC PG nm N (relS scope sc) true elt && decide (ifs.len ≤ 1)) = true from o2)
          obtain ⟨oo, o8⟩ := a2 oo
          obtain ⟨p1, p2, p3, p4, p5⟩ := a5 oo
          have ok : BlkOk X.N X.env.scope scope own := by rw [h.N, h.sc]; exact blkOk_by p2
          have hpg : ∀ (s : Shared) (H : Hp) (C : Addr) (cl : List (Str × Addr)) (fp : List Addr), L2.PG (X.blk s H scope (compEnvC scope cl C X.env) fp) tg.up (tTg T X.K tg) := fun s H C cl fp =>
            pg_tg (X := X.blk s H scope (compEnvC scope cl C X.env) fp) (T := T) h.calm h.nd (tg_ofB (h.blk s H scope C cl fp) p3)
          have ht : ∀ (s : Shared) (H : Hp) (C : Addr) (cl : List (Str × Addr)) (fp : List Addr), PTs (X.blk s H scope (compEnvC scope cl C X.env) fp) ifs.up (tT T X.K B W0 (evIfs PG (cal PG k) ifs)) := fun s H C cl fp =>
            (sndL ifs (X.blk s H scope (compEnvC scope cl C X.env) fp) (relS scope sc) true B W0 (h.blk s H scope C cl fp) takes0 p5).2.1 (of_decide_eq_true o7)
          have he : ∀ (s : Shared) (H : Hp) (C : Addr) (cl : List (Str × Addr)) (fp : List Addr), PE (X.blk s H scope (compEnvC scope cl C X.env) fp) elt.up (tE T X.K B W0 (ev PG (cal PG k) elt)) := fun s H C cl fp =>
            (snd elt (X.blk s H scope (compEnvC scope cl C X.env) fp) (relS scope sc) true B W0 (h.blk s H scope C cl fp) takes0 o8).1
          have z := ps_setLc (i := i) (py := px) (spos := p) h.calm h.nd hx.1 hloc (swapsL_of elt tg it ifs scope own q x px p.line X.env hk hloc o5 o6) (sndI it X sc false B W tg h tk p1) ok hpg ht he (fold_of it _)
          refine ps_imp z fun D σ H ⟨G, s, hR, q1⟩ => ?_
          refine (lcRead elt tg it ifs scope own q X sc false B W h tk o2 (sndI it) (sndL ifs) (snd elt)).2 σ H _ ⟨G, s, hR, f_bind (P := PR T X.K B) q1 (.refl _ _) fun r s1 G1 H1 v st p1 R1 r1 q1 => ?_⟩
          split at q1
          · rename_i d hk
            obtain ⟨G2, st2, R2, rv, P2⟩ := keep1p R1 st r1 hk
            exact q1 _ _ _ P2 (R2.stored (.va rv) fun z => by cases z)
          · exact q1.elim
  | .seto i x px c p => fun X sc B W h hf hk st tk hp o => by
      obtain ⟨o1, o2, o3⟩ := a3 o
      have hx := nm_of h (blk := false) (fun _ => hf) o1
      exact sS_seto h.nd hx.1 hx.2.1 (snd c X sc false B W h tk o2).1 (swaps_of c _ _ _ (by simpa using o3)) hx.2.2
  | .unp l j pt c p => fun X sc B W h hf hk st tk hp o => by
      obtain ⟨o1, o2, o3⟩ := a3 o
      exact sS_unp h.calm h.nd (nms_of h (blk := false) (fun _ => hf) o1) (snd c X sc false B W h tk o2).1 (swapsT_of c l j pt _ _) (swapped_of c l j pt _ (by simpa using o3))
  | .app i x px pa c pc p => fun X sc B W h hf hk st tk hp o => by
      obtain ⟨o1, o2, o3⟩ := a3 o
      exact sS_app (var_of h o1) (snd c X sc false B W h tk o2).1 (nostar c _ _) o3
  | .rev i x px pa pc p => fun X sc B W h hf hk st tk hp o => sS_rev (var_of h (a2 o).1) (a2 o).2
  | .expr c p => fun X sc B W h hf hk st tk hp o => sS_expr (snd c X sc false B W h tk (a2 o).1).1 (swaps_of c _ _ _ (by simpa using (a2 o).2))
  | .ret c p => fun X sc B W h hf hk st tk hp o => sS_ret (snd c X sc false B W h tk o).1
  | .ifs t a b p => fun X sc B W h hf hk st tk hp o => sS_if (snd t X sc false B W h tk (a3 o).1).2 (sndB a X sc B W h hf hk st tk hp (a3 o).2.1) (sndB b X sc B W h hf hk st tk hp (a3 o).2.2)
  | .for_ tg it b p => fun X sc B W h hf hk st tk hp o => sS_for hp h.calm h.nd (sndI it X sc false B W tg h tk (a3 o).2.1) (tg_of h (fun _ => hf) (a3 o).1) (sndB b X sc B W h hf hk st tk hp (a3 o).2.2) (fold_of it _)
  | .while_ t b p => fun X sc B W h hf hk st tk hp o => sS_while hp (snd t X sc false B W h tk (a2 o).1).2 (sndB b X sc B W h hf hk st tk hp (a2 o).2)
  | .ret0 p => fun X sc B W h hf hk st tk hp o => sS_ret0
  | .swp2 i x px j y py kt pt a b k2 pt2 p => fun X sc B W h hf hk st tk hp o => by
      obtain ⟨o, o12⟩ := a2 o
      obtain ⟨o, o11⟩ := a2 o
      obtain ⟨o, o10⟩ := a2 o
      obtain ⟨o, o9⟩ := a2 o
      obtain ⟨o, o8⟩ := a2 o
      obtain ⟨o, o7⟩ := a2 o
      obtain ⟨o, o6⟩ := a2 o
      obtain ⟨o1, o2, o3, o4, o5⟩ := a5 o
      have hx := nm_of h (blk := false) (fun _ => hf) o1
      have hy := nm_of h (blk := false) (fun _ => hf) o2
      have kx : X.env.scope.names.lookup x = some .local := by rw [h.sc]; exact kd_of o3
      have ky : X.env.scope.names.lookup y = some .local := by rw [h.sc]; exact kd_of o4
      refine sS_swp2 h.calm h.nd hx.1 hy.1 (of_decide_eq_true o5) kx ky (sndL (.cons a (.cons b .nil)) X sc false B W h tk (by show (okC PG nm N sc false a && (okC PG nm N sc false b && true)) = true; rw [o9, o10]; rfl)).1 ?_ rfl
      exact swap2_of a b X.env kx ky (by simpa using o6) (by simpa using o7) (by rw [h.sc]; exact of_decide_eq_true o8) (nb o11) (nb o12)
  | .pass p => fun X sc B W h hf hk st tk hp o => sS_pass
  | .raise_ n x px m j pm pc p => fun X sc B W h hf hk st tk hp o => by
      obtain ⟨o1, o2, o3⟩ := a3 o
      obtain ⟨g1, g2, g3⟩ := gl_of h o1
      obtain ⟨m1, c1⟩ := h.mg.cls n x (of_decide_eq_true o2)
      exact ps_imp (ps_raise h.calm tk (pmk_own PySem.F.excBase_ValueError (h.mg.pln n x (of_decide_eq_true o2) (Option.isNone_iff_eq_none.mp o3)) m1 c1.kp (raises_own c1.sb c1.ty) g1 g2)) fun D σ H ⟨G, s, hR, q⟩ => q G σ H (.ref (T.c n)) none (.refl _ _) hR ⟨rfl, .inl ⟨rfl, rfl⟩⟩
  | .try_ b hs p => fun X sc B W h hf hk st tk hp o => by
      obtain ⟨o1, o2, o3⟩ := a3 o
      exact sS_try h hf st tk o2 o3 fun W pn xe tk hp => sndB b (X.tr pn xe) sc B W ⟨h.N, h.sc, h.calm, h.nd, h.room, ⟨h.F.fn⟩, ⟨h.mg.fn, h.mg.own, h.mg.bi, h.mg.rng, h.mg.enu, h.mg.zip, h.mg.ty, h.mg.cst, h.mg.cls, h.mg.pln, h.mg.xin, h.mg.xcl, h.mg.sub, h.mg.vle, h.mg.vln, h.mg.hot⟩, h.nx⟩ hf hk st tk hp o1
  | .sfld r f po c p => fun X sc B W h hf hk st tk hp o => by
      obtain ⟨o1, o2, o3⟩ := a3 o
      exact sS_sfld (h.mg.own.fld f) (snd r X sc false B W h tk o1).1 (snd c X sc false B W h tk o2).1 (swaps_of c _ _ _ (by simpa using o3))
  | .sput r j po c p => fun X sc B W h hf hk st tk hp o => by
      obtain ⟨o1, o2, o3, o4⟩ := a4 o
      have hu := h.hu
      exact sS_sput (by omega) (snd r X sc false B W h tk o1).1 (snd j X sc false B W h tk o2).1 (snd c X sc false B W h tk o3).1 (swaps_of c _ _ _ (by simpa using o4))
  | .mclr r pa pc p => fun X sc B W h hf hk st tk hp o => sS_mclr (snd r X sc false B W h tk (a2 o).1).1 (base_of r _ _ (a2 o).1) (a2 o).2
  | .mapp r pa c pc p => fun X sc B W h hf hk st tk hp o => by
      obtain ⟨o1, o2, o3⟩ := a3 o
      exact sS_mapp (snd r X sc false B W h tk o1).1 (snd c X sc false B W h tk o2).1 (base_of r _ _ o1) (nostar c _ _) o3
  | .mext r pa c pc p => fun X sc B W h hf hk st tk hp o => by
      obtain ⟨o1, o2, o3⟩ := a3 o
      exact sS_mext (snd r X sc false B W h tk o1).1 (snd c X sc false B W h tk o2).1 (base_of r _ _ o1) (nostar c _ _) o3
  | .raisx n x px c pc p => fun X sc B W h hf hk st tk hp o => by
      obtain ⟨o1, o2, o3, o4⟩ := a4 o
      obtain ⟨g1, g2, g3⟩ := gl_of h o1
      obtain ⟨⟨f, q⟩, hn⟩ := Option.isSome_iff_exists.mp o3
      obtain ⟨m1, c1⟩ := h.mg.cls n x (of_decide_eq_true o2)
      exact sS_raisx h.calm tk (h.room.mono (by omega)) hn (h.mg.xin n f q hn) g1 m1 g2 (snd c X sc false B W h tk o4).1 (nostar c _ _)
  | .forl tg w c pa pc b p => fun X sc B W h hf hk st tk hp o => by
      obtain ⟨o1, o2, o3, o4⟩ := a4 o
      exact sS_lk (sS_for hp h.calm h.nd (wkI tg w c pa pc h tk o2 o4) (tg_of h (fun _ => hf) o1) (sndB b X sc B W h hf hk st tk hp o3) (foldW_of w c pa pc _))
  | .setl i x px elt tg w c pa pc ifs scope own q p => fun X sc B W h hf hk st tk hp o => by
      obtain ⟨o, oe⟩ := a2 (show ((okNm N sc false i x && okC PG nm N sc false c && blkC N sc scope own && okTgB N scope sc tg && (tgIx tg).all (fun i => decide (i ∈ own.map (·.2))) && okL PG nm N (relS scope sc) true ifs && okC PG nm N (relS scope sc) true elt && decide (ifs.len ≤ 1) && okWk sc w tg pa pc) && (kd sc x .local && ((px.line == q.line) && !(scope.names.any fun (n, k) => n == x && (k == .local || k == .cell))))) = true from o)
      obtain ⟨o, o9⟩ := a2 o
      obtain ⟨o, o8⟩ := a2 o
      obtain ⟨o, o7⟩ := a2 o
      obtain ⟨o, o6⟩ := a2 o
      obtain ⟨o, o5⟩ := a2 o
      obtain ⟨o, o4⟩ := a2 o
      obtain ⟨o1, o2, o3⟩ := a3 o
      obtain ⟨k1, k2⟩ := a2 oe
      obtain ⟨k2, k3⟩ := a2 k2
      have hx := nm_of h (blk := false) (fun _ => hf) o1
      have hloc : X.env.scope.names.lookup x = some .local := by rw [h.sc]; exact kd_of k1
      have ol : okC PG nm N sc false (.lcl elt tg w c pa pc ifs scope own q) = true := by
        show (okC PG nm N sc false c && blkC N sc scope own && okTgB N scope sc tg && (tgIx tg).all (fun i => decide (i ∈ own.map (·.2))) && okL PG nm N (relS scope sc) true ifs && okC PG nm N (relS scope sc) true elt && decide (ifs.len ≤ 1) && okWk sc w tg pa pc) = true
        rw [o2, o3, o4, o5, o6, o7, o8, o9]; rfl
      obtain ⟨hi, ok, hpg, ht, he, cv⟩ := lclRead elt tg w c pa pc ifs scope own q X sc false B W h tk ol (snd c) (sndL ifs) (snd elt)
      have z := ps_setLc (i := i) (py := px) (spos := p) h.calm h.nd hx.1 hloc (swapsL_of2 elt.up ⟨tg.up, wkUp w c.up pa pc, ifs.up, 0⟩ scope q x px p.line X.env hk hloc k2 k3) hi ok hpg ht he (foldW_of w c pa pc _)
      refine sS_lk (ps_imp z fun D σ H ⟨G, s, hR, q1⟩ => ?_)
      refine cv σ H _ ⟨G, s, hR, f_bind (P := PR T X.K B) q1 (.refl _ _) fun r s1 G1 H1 v st p1 R1 r1 q1 => ?_⟩
      split at q1
      · rename_i d hk
        obtain ⟨G2, st2, R2, rv, P2⟩ := keep1p R1 st r1 hk
        exact q1 _ _ _ P2 (R2.stored (.va rv) fun z => by cases z)
      · exact q1.elim
  | .wild s => fun X sc B W h hf hk st tk hp o => ⟨fun pins s σ H D I q => (show False from by obtain ⟨_, _, _, q⟩ := q; exact q).elim⟩
  | .tokm c => fun X sc B W h hf hk st tk hp o => sndS c X sc B W h hf hk st tk hp o
  | .rep .. => fun X sc B W h hf hk st tk hp o => absurd (show false = true from o) (by decide)
theorem sndB : ∀ (c : CB) (X : Cx) (sc : Scope) (B : Bs) (W : WX), Cxt X PG nm T N sc k → (X.fn = fun _ => true) → X.env.scope.kind = .function → (X.stack = X.env :: X.outer ∧ X.env.frame = some X.env.locals) → L2.Takes X W → PassesOwn (model X.prog X.w) X.A X.env X.xe → okB PG nm N sc c = true → PSs X c.up (tS T X.K B W (exb PG (cal PG k) c))
  | .nil => fun X sc B W h hf hk st tk hp o => sB_nil
  | .cons c cs => fun X sc B W h hf hk st tk hp o => by
      obtain ⟨o1, o2⟩ := a2 (show (okS PG nm N sc c && (okB PG nm N sc cs || (isTokM c && okT PG nm N sc cs))) = true from o)
      cases hb : okB PG nm N sc cs with
      | true => exact sB_cons (sndS c X sc B W h hf hk st tk hp o1) (sndB cs X sc B W h hf hk st tk hp hb)
      | false =>
        rw [hb, Bool.false_or] at o2
        obtain ⟨o3, o4⟩ := a2 o2
        exact sB_tok o3 (sndS c X sc B W h hf hk st tk hp o1) (sndT cs X sc B W h hf hk st tk hp o4) (swap_tok o3 X.env)
theorem sndT : ∀ (c : CB) (X : Cx) (sc : Scope) (B : Bs) (W : WX), Cxt X PG nm T N sc k → (X.fn = fun _ => true) → X.env.scope.kind = .function → (X.stack = X.env :: X.outer ∧ X.env.frame = some X.env.locals) → L2.Takes X W → PassesOwn (model X.prog X.w) X.A X.env X.xe → okT PG nm N sc c = true → PSsT X c.up (tS T X.K B W (exb PG (cal PG k) c))
  | .nil => fun X sc B W h hf hk st tk hp o => PSsT.of sB_nil
  | .cons c cs => fun X sc B W h hf hk st tk hp o => by
      obtain ⟨o1, o2⟩ := a2 (show ((okS PG nm N sc c || okRep N sc c) && okT PG nm N sc cs) = true from o)
      have hr := sndT cs X sc B W h hf hk st tk hp o2
      cases ho : okS PG nm N sc c with
      | true => exact sT_cons (PST.of (sndS c X sc B W h hf hk st tk hp ho)) hr
      | false =>
        rw [ho, Bool.false_or] at o1
        refine sT_cons ?_ hr
        cases c <;> first | (cases o1; done) | skip
        case rep i x px j y py c1 c2 k1 k2 q1 q2 pa pc p =>
          obtain ⟨p1, p2, p3, p4⟩ := a4 (show (okNm N sc false i x && okVar N sc j y && !(c1 == c2) && (pa.endLine == pc.line)) = true from o1)
          have hx := nm_of h (blk := false) (fun _ => hf) p1
          unfold okVar at p2
          simp only [Bool.and_eq_true, Bool.or_eq_true, Bool.not_eq_true', decide_eq_true_eq] at p2
          obtain ⟨⟨⟨v1, v2⟩, v3⟩, v4⟩ := p2
          have hv : Vis X.env.scope y := by
            unfold Vis
            rw [h.sc]
            rcases v2 with (v2 | v2) | v2
            · exact .inl (kd_of v2)
            · exact .inr (.inl (kd_of v2))
            · exact .inr (.inr (kd_of v2))
          exact pst_rep h.nd hx.1 hx.2.1 hx.2.2 (by rw [h.N]; exact v1) hv v3 v4 (by simpa using p3) p4
end
end
/-! tables of the text -/
def mthF (L : List (Nat × Str × Nat)) (c : Nat) (m : Str) : Option Nat := match L with
  | [] => none
  | (c', m', n) :: r => if c = c' ∧ m = m' then some n else mthF r c m
def AllM (P : Nat → Str → Nat → Prop) : List (Nat × Str × Nat) → Prop
  | [] => True
  | (c, m, n) :: r => P c m n ∧ AllM P r
theorem mth_of {P : Nat → Str → Nat → Prop} : ∀ {L : List (Nat × Str × Nat)}, AllM P L → ∀ m c n, mthF L c m = some n → P c m n
  | [], _, m, c, n, h => by cases h
  | (c', m', n') :: r, ⟨a, b⟩, m, c, n, h => by
    unfold mthF at h
    split at h
    · rename_i e
      obtain ⟨rfl, rfl⟩ := e
      cases h
      exact a
    · exact mth_of b m c n h
def fldF (L : List (Nat × Str)) (c : Nat) (f : Str) : Bool := match L with
  | [] => false
  | (c', f') :: r => if c = c' ∧ f = f' then true else fldF r c f
def AllF (P : Nat → Str → Prop) : List (Nat × Str) → Prop
  | [] => True
  | (c, f) :: r => P c f ∧ AllF P r
theorem fld_of {P : Nat → Str → Prop} : ∀ {L : List (Nat × Str)}, AllF P L → ∀ f c, fldF L c f = true → P c f
  | [], _, f, c, h => by cases h
  | (c', f') :: r, ⟨a, b⟩, f, c, h => by
    unfold fldF at h
    split at h
    · rename_i e
      obtain ⟨rfl, rfl⟩ := e
      exact a
    · exact fld_of b f c h
def iniF (L : List (Nat × Nat)) (c : Nat) : Option Nat := match L with
  | [] => none
  | (c', n) :: r => if c = c' then some n else iniF r c
def AllI (P : Nat → Nat → Prop) : List (Nat × Nat) → Prop
  | [] => True
  | (c, n) :: r => P c n ∧ AllI P r
theorem ini_of {P : Nat → Nat → Prop} : ∀ {L : List (Nat × Nat)}, AllI P L → ∀ c n, iniF L c = some n → P c n
  | [], _, c, n, h => by cases h
  | (c', n') :: r, ⟨a, b⟩, c, n, h => by
    unfold iniF at h
    split at h
    · rename_i e
      subst e
      cases h
      exact a
    · exact ini_of b c n h
def dflF (L : List (Nat × Str)) (n : Nat) : Option Str := match L with
  | [] => none
  | (m, x) :: r => if n = m then some x else dflF r n
def xinF (L : List (Nat × Str × Option Nat)) (c : Nat) : Option (Str × Option Nat) := match L with
  | [] => none
  | (c', f, q) :: r => if c = c' then some (f, q) else xinF r c
def AllX (P : Nat → Str → Option Nat → Prop) : List (Nat × Str × Option Nat) → Prop
  | [] => True
  | (c, f, q) :: r => P c f q ∧ AllX P r
theorem xin_of {P : Nat → Str → Option Nat → Prop} : ∀ {L : List (Nat × Str × Option Nat)}, AllX P L → ∀ c f q, xinF L c = some (f, q) → P c f q
  | [], _, c, f, q, h => by cases h
  | (c', f', q') :: r, ⟨a, b⟩, c, f, q, h => by
    unfold xinF at h
    split at h
    · rename_i e
      subst e
      cases h
      exact a
    · exact xin_of b c f q h
/-! defs -/
/-- a def as it stands, its defaults aside -/
structure FunA (K : PySem.W.Frag) (x qual : Str) (st : Stmt) (f : Addr) (fd : FuncData) : Prop where
  ex : ∃ (oc : Value) (od : Option Addr) (dV kV doc pm : Value) (an : Option Addr) (cdv ct : Value) (osl : Array (Option Value)),
    fd = PySem.W.fnOf x qual (defArgs st) (defBody st) (defScope st) dV kV doc pm an cdv ct ∧ K.lookup f = some ⟨oc, od, .func fd, osl⟩ ∧ PySem.W.codeIn K cdv qual = true
  kp : PySem.W.keepIn K (.ref f) = true
theorem FunA.of {K : PySem.W.Frag} {x qual : Str} {st : Stmt} {f : Addr} {fd : FuncData} (F : Fun K x qual st f fd) : FunA K x qual st f fd := by
  obtain ⟨oc, od, kV, doc, pm, an, cdv, ct, osl, h⟩ := F.ex
  exact ⟨⟨oc, od, _, kV, doc, pm, an, cdv, ct, osl, h⟩, F.kp⟩
theorem FunA.okX {P : Program} {w : World} {K : PySem.W.Frag} {mg : Str → Option Value} {base : Heap} {x qual : Str} {st : Stmt} {f : Addr} {fd : FuncData} {N ps : List Str} {k : Nat} {sp : Sp} (F : FunA K x qual st f fd) (S : FnScope N ps (defScope st)) (len : ∀ vs H Q E, sp vs H Q E → vs.length = ps.length)
    (hbody : ∀ (cdv : Value) (A : Around) (outer : List Env) (s : Shared) (H : Hp) (vs : List V) (Q : VK) (E : XK), Room k (A.deeper (envOfC qual (defScope st) s.heap.objs.size f cdv)) → sp vs H Q E →
      ∃ t, PSs (cxOf (L2.CX P w) P w K mg base N qual (defScope st) f cdv A outer s H E) (defBody st) t ∧ t { nx := fun _ H' => Q .non H', rt := Q } (start N vs) H) : FnOk P w K mg base (L2.CX P w) (k + 1) f fd ps sp := by
  obtain ⟨oc, od, dV, kV, doc, pm, an, cdv, ct, osl, rfl, lk, hcd⟩ := F.ex
  exact fn_of lk hcd S len fun A outer s H vs Q E hr hsp => hbody cdv A outer s H vs Q E hr hsp
/-- a def with defaults, all parameters written -/
theorem binds_full {K : PySem.W.Frag} {x qual : Str} {st : Stmt} {ps : List Str} {T : Addr} {o : Obj} {its : Array Value} {m : Nat} {kV doc pm : Value} {an : Option Addr} {cdv ct : Value} (lT : K.lookup T = some o) (oT : o.data = .seq its m)
    (h : ∀ us : List Value, us.length = ps.length → ∃ k, bindArgs (PySem.W.fnOf x qual (defArgs st) (defBody st) (defScope st) (.ref T) kV doc pm an cdv ct) ⟨us, []⟩ = seqItems? (.ref T) >>= k ∧ k (some its) = pure (ps.zip us)) :
    L2.Binds K (PySem.W.fnOf x qual (defArgs st) (defBody st) (defScope st) (.ref T) kV doc pm an cdv ct) ps [] := by
  intro s us X hl
  rw [List.append_nil] at hl ⊢
  obtain ⟨k, e1, e2⟩ := h us hl
  refine BindsTo.of_looks fun M => ?_
  rw [e1]
  exact looks_items X lT oT (.of_pure e2)
/-- the last parameter is None where it lacks -/
theorem bdn_dfl {K : PySem.W.Frag} {x qual : Str} {st : Stmt} {ps : List Str} {T : Addr} {o : Obj} {m : Nat} {kV doc pm : Value} {an : Option Addr} {cdv ct : Value} {q : Str} (b : L2.Binds K (PySem.W.fnOf x qual (defArgs st) (defBody st) (defScope st) (.ref T) kV doc pm an cdv ct) ps []) (lT : K.lookup T = some o) (oT : o.data = .seq #[.none] m)
    (h1 : ∀ us : List Value, us.length + 1 = ps.length → ∃ k, bindArgs (PySem.W.fnOf x qual (defArgs st) (defBody st) (defScope st) (.ref T) kV doc pm an cdv ct) ⟨us, []⟩ = seqItems? (.ref T) >>= k ∧ k (some #[.none]) = pure (ps.zip (us ++ [.none])))
    (h2 : ∀ (us : List Value) (w : Value), us.length + 1 = ps.length → ∃ k, bindArgs (PySem.W.fnOf x qual (defArgs st) (defBody st) (defScope st) (.ref T) kV doc pm an cdv ct) ⟨us, [(q, w)]⟩ = seqItems? (.ref T) >>= k ∧ k (some #[.none]) = pure (ps.zip (us ++ [w]))) :
    Bdn K (some q) (PySem.W.fnOf x qual (defArgs st) (defBody st) (defScope st) (.ref T) kV doc pm an cdv ct) ps := by
  refine ⟨b, fun y e s us X hl => ?_, fun y e s us w X hl => ?_⟩
  · obtain ⟨k, e1, e2⟩ := h1 us (by rw [List.length_append] at hl; simpa using hl)
    refine BindsTo.of_looks fun M => ?_
    rw [e1]
    exact looks_items X lT oT (.of_pure e2)
  · cases e
    obtain ⟨k, e1, e2⟩ := h2 us w hl
    refine BindsTo.of_looks fun M => ?_
    rw [e1]
    exact looks_items X lT oT (.of_pure e2)
/-- a def of the text and its word -/
def FnE (K : PySem.W.Frag) (PG : Prog) (nm : Nat → Str) (T : Tab) (n : Nat) (f : FnD) : Prop :=
  ∃ (x qual : Str) (st : Stmt) (fd : FuncData) (N ps : List Str), FunA K x qual st (T.f n) fd ∧ FnScope N ps (defScope st) ∧ defBody st = f.body.up ∧ okB PG nm N (defScope st) f.body = true ∧ f.ps = ps.length ∧ f.ns = N.length ∧ Bdn K (PG.dfl n) fd ps
structure Mg0 (K : PySem.W.Frag) (mg : Str → Option Value) (PG : Prog) (nm : Nat → Str) (T : Tab) : Prop where
  fn : ∀ n : Nat, (PG.fns[n]?).isSome = true → nm n ≠ "" → mg (nm n) = some (.ref (T.f n))
  own : OwnM K mg PG T
  bi : ∀ b : Bi, mg b.name = none
  rng : mg "range" = none
  enu : mg "enumerate" = none
  zip : mg "zip" = none
  ty : ∀ n ∈ types, mg (Str.ofString n) = none
  cst : ∀ (n : Nat) (x : Str) (d : D), PG.cst[n]? = some (x, d) → ∃ u v, mg x = some u ∧ RelV v u ∧ ∀ G H, RV T K G H v d
  cls : ∀ (n : Nat) (x : Str), PG.cls[n]? = some x → mg x = some (.ref (T.c n)) ∧ ClsOk K (T.c n)
  pln : ∀ (n : Nat) (x : Str), PG.cls[n]? = some x → PG.xin n = none → PySem.W.excIn K (T.c n) [.type "ValueError", .type "Exception", .type "BaseException", .type "object"] "ValueError.__new__" = true
  xin : ∀ (P : Program) (w : World) (base : Heap) (n : Nat) (f : Str) (q : Option Nat), PG.xin n = some (f, q) → XinOk P w K mg base (T.c n) f q
  xcl : ∀ (n : Nat) (q : Str × Option Nat), PG.xin n = some q → ∃ y, PG.cls[n]? = some y
  sub : ∀ (n m : Nat) (x y : Str), PG.cls[n]? = some x → PG.cls[m]? = some y → PySem.W.exmOne K (.ref (T.c n)) (.ref (T.c m)) = some (PG.sub n m) ∧ PySem.W.kitOne K (.ref (T.c n)) (.ref (T.c m)) = some (PG.sub n m)
  vle : ∀ (n : Nat) (x : Str), PG.cls[n]? = some x → PySem.W.kitOne K (.ref (T.c n)) (.type "ValueError") = some true
  vln : mg "ValueError" = none
  hot : ∀ (n : Nat) (f : FnD), PG.fns[n]? = none → PG.hfs[n - PG.fns.length]? = some f → HFn K mg PG nm T n f
  nx : T.x = none
theorem hot_cases {PG : Prog} {P : Nat → FnD → Prop} (h : ∀ i f, PG.hfs[i]? = some f → P (PG.fns.length + i) f) (n : Nat) (f : FnD) (h0 : PG.fns[n]? = none) (h1 : PG.hfs[n - PG.fns.length]? = some f) : P n f := by
  have z := h _ f h1
  have := List.getElem?_eq_none_iff.mp h0
  rwa [show PG.fns.length + (n - PG.fns.length) = n by omega] at z
theorem get_lt {α : Type} {l : List α} {i : Nat} {x : α} (e : l[i]? = some x) : i < l.length := (List.getElem?_eq_some_iff.mp e).1
theorem rel_start {T : Tab} {K : PySem.W.Frag} {G : Gh} {H : Hp} {vs : List V} {ds : List D} {st : Sto} {N : List Str} (c : RelC T K G st H) (r : RVs T K G H vs ds) (hl : ds.length ≤ N.length) :
    Rel T K ⟨G, H⟩ G ⟨ds.map .va ++ List.replicate (N.length - ds.length) .no, st⟩ (L2.start N vs) H := by
  have key : ∀ (i : Nat) (x : BB.Slot), (ds.map BB.Slot.va ++ List.replicate (N.length - ds.length) BB.Slot.no)[i]? = some x → (x = .no ∨ ∃ d v, x = .va d ∧ RV T K G H v d ∧ (L2.start N vs)[i]? = some (some v)) := by
    intro i x e
    by_cases hi : i < ds.length
    · rw [List.getElem?_append_left (by simpa using hi), List.getElem?_map, List.getElem?_eq_getElem hi] at e
      cases e
      obtain ⟨v, h1, h2⟩ := r.get (List.getElem?_eq_getElem hi)
      refine .inr ⟨_, v, rfl, h2, ?_⟩
      unfold L2.start
      rw [List.getElem?_append_left (by rw [List.length_map]; exact get_lt h1), List.getElem?_map, h1]
      rfl
    · rw [List.getElem?_append_right (by simpa using hi), List.getElem?_replicate] at e
      split at e
      · cases e; exact .inl rfl
      · cases e
  have no : ∀ i a, ¬ Own ⟨ds.map .va ++ List.replicate (N.length - ds.length) .no, st⟩ (L2.start N vs) i a := fun i a ⟨⟨x, e, ho⟩, _⟩ => by
    rcases key i x e with rfl | ⟨d, v, rfl, _⟩ <;> cases ho
  refine ⟨?_, fun i x e => ?_, fun a ⟨i, h⟩ => absurd h (no i a), fun i j a h _ => absurd h (no i a), c, .refl _ _⟩
  · unfold L2.start
    have := r.length
    simp only [List.length_append, List.length_map, List.length_replicate]
    omega
  · rcases key i x e with rfl | ⟨d, v, rfl, h1, h2⟩
    · exact .no _
    · rw [h2]; exact .va h1
theorem fn_step {P : Program} {w : World} {K : PySem.W.Frag} {mg : Str → Option Value} {base : Heap} {PG : Prog} {nm : Nat → Str} {T : Tab} {k n : Nat} {f : FnD} (hm : Mg0 K mg PG nm T) (hn : PG.fns[n]? = some f)
    (ih : ∀ n f, PG.fns[n]? = some f → ∃ fd ps, ps.length = f.ps ∧ FnOk P w K mg base (L2.CX P w) (2 * k + 1) (T.f n) fd ps (spF T K PG k n) ∧ Bdn K (PG.dfl n) fd ps ∧ PySem.W.keepIn K (.ref (T.f n)) = true)
    {x qual : Str} {st : Stmt} {fd : FuncData} {N ps : List Str} (F : FunA K x qual st (T.f n) fd) (S : FnScope N ps (defScope st)) (hb : defBody st = f.body.up) (ok : okB PG nm N (defScope st) f.body = true) (hp : f.ps = ps.length) (hN : f.ns = N.length) :
    FnOk P w K mg base (L2.CX P w) (2 * (k + 1) + 1) (T.f n) fd ps (spF T K PG (k + 1) n) := by
  refine F.okX S (fun vs H Q E h => ?_) (fun cdv A outer s H vs Q E hr h => ?_)
  · obtain ⟨G, ds, st', c, r, ⟨f', e, hl⟩, _⟩ := h
    rw [hn] at e; cases e
    rw [r.length, hl, hp]
  · obtain ⟨G, ds, st', c, r, ⟨f', e, hl⟩, q⟩ := h
    rw [hn] at e; cases e
    have hpl : ps.length ≤ N.length := by have := congrArg List.length S.pre; rw [List.length_take] at this; omega
    let X := cxOf (L2.CX P w) P w K mg base N qual (defScope st) (T.f n) cdv A outer s H E
    have CX : Cxt X PG nm T N (defScope st) k := ⟨rfl, rfl, rfl, S.nd, hr, ⟨ih⟩, ⟨hm.fn, hm.own, hm.bi, hm.rng, hm.enu, hm.zip, hm.ty, hm.cst, hm.cls, hm.pln, hm.xin _ _ _, hm.xcl, hm.sub, hm.vle, hm.vln, hm.hot⟩, hm.nx⟩
    have tk : L2.Takes X (fun cls d _ H => E cls d H) := L2.takes_of rfl rfl rfl rfl
    have sb := sndB (PG := PG) (nm := nm) (T := T) (N := N) (k := k) f.body X (defScope st) ⟨G, H⟩ (fun cls d _ H => E cls d H) CX rfl S.kind ⟨rfl, rfl⟩ tk PassesOwn.leaving ok
    refine ⟨tS T K ⟨G, H⟩ (fun cls d _ H => E cls d H) (exb PG (cal PG k) f.body), by rw [hb]; exact sb, G, ⟨ds.map .va ++ List.replicate (N.length - ds.length) .no, st'⟩, rel_start c r (by rw [hl, hp]; exact hpl), ?_⟩
    have q : CAt T K (cal PG (k + 1) n ds st') G H Q E := q
    unfold cal at q
    rw [hn] at q
    dsimp only at q
    rw [if_pos hl] at q
    have eN : f.ns - f.ps = N.length - ds.length := by rw [hN, hl]
    rw [eN] at q
    revert q
    show CAt T K (outR (exb PG (cal PG k) f.body _)) G H Q E → FAt T K ⟨G, H⟩ (fun cls d _ H => E cls d H) (exb PG (cal PG k) f.body _) G H _
    cases exb PG (cal PG k) f.body ⟨ds.map .va ++ List.replicate (N.length - ds.length) .no, st'⟩ with
    | nx s' => exact fun q G' σ' H' _ R => q G' H' .non R.b R.c (.va .non)
    | rt r s' =>
      cases r with
      | own i => exact fun q => q.elim
      | va d => exact fun q G' σ' H' v _ R x => q G' H' v R.b R.c (by cases x with | va y => exact .va y)
      | fl l => exact fun q G' σ' H' v _ R x => q G' H' v R.b R.c (by cases x with | fl a b c d e => exact .fl a b c d e)
      | fd t l => exact fun q G' σ' H' v _ R x => q G' H' v R.b R.c (by cases x with
          | fdK a b c d e => exact .fdK a b c d e
          | fdT a b c d e => exact .fdT a b c d e)
    | bk s' => exact fun q => q.elim
    | ct s' => exact fun q => q.elim
    | ex m fs s' => exact fun q G' σ' H' cls d _ R x => q G' H' cls d R.b R.c x
    | bad => exact fun q => q
theorem all_ok {P : Program} {w : World} {K : PySem.W.Frag} {mg : Str → Option Value} {base : Heap} {PG : Prog} {nm : Nat → Str} {T : Tab} (hm : Mg0 K mg PG nm T) (hf : ∀ n f, PG.fns[n]? = some f → FnE K PG nm T n f) :
    ∀ k n f, PG.fns[n]? = some f → ∀ (x qual : Str) (st : Stmt) (fd : FuncData) (N ps : List Str), FunA K x qual st (T.f n) fd → FnScope N ps (defScope st) → defBody st = f.body.up → okB PG nm N (defScope st) f.body = true → f.ps = ps.length → f.ns = N.length → Bdn K (PG.dfl n) fd ps →
      FnOk P w K mg base (L2.CX P w) (2 * k + 1) (T.f n) fd ps (spF T K PG k n)
  | 0, n, f, hn, x, qual, st, fd, N, ps, F, S, hb, ok, hp, hN, bd => by
    refine ⟨fun vs H Q E h => ?_, fun A outer s H args us vs Q E hr e0 hbd hv h => ?_⟩
    · obtain ⟨G, ds, st', c, r, ⟨f', e, hl⟩, _⟩ := h
      rw [hn] at e; cases e
      rw [r.length, hl, hp]
    · obtain ⟨G, ds, st', c, r, _, q⟩ := h
      exact q.elim
  | k + 1, n, f, hn, x, qual, st, fd, N, ps, F, S, hb, ok, hp, hN, bd =>
    fn_step hm hn (fun n f hn => by
      obtain ⟨x, qual, st, fd, N, ps, F, S, hb, ok, hp, hN, bd⟩ := hf n f hn
      exact ⟨fd, ps, hp.symm, all_ok hm hf k n f hn x qual st fd N ps F S hb ok hp hN bd, bd, F.kp⟩) F S hb ok hp hN
/-! the law -/
def spLaw (K : PySem.W.Frag) : Sp := fun vs H Q _ => ∃ (a : Addr) (ns : List Int), vs = [.ref a] ∧ SqL K H a (ns.map V.int) ∧ ns.length ≤ 63 ∧ ∀ H', Q (.bl true) H'
theorem rvs_ints {T : Tab} {K : PySem.W.Frag} {G : Gh} {H : Hp} : ∀ ns : List Int, RVs T K G H (ns.map V.int) (ns.map D.int)
  | [] => .nil
  | n :: ns => .cons (.int n) (rvs_ints ns)
theorem law_ok {P : Program} {w : World} {K : PySem.W.Frag} {mg : Str → Option Value} {base : Heap} {PG : Prog} {T : Tab} {k n : Nat} {fd : FuncData} {x : Str} (h : FnOk P w K mg base (L2.CX P w) (2 * k + 1) (T.f n) fd [x] (spF T K PG k n)) (hf : ∃ f, PG.fns[n]? = some f ∧ 1 = f.ps)
    (hl : ∀ ns : List Int, ns.length ≤ 63 → ∃ st, cal PG k n [.scr (ns.map .int)] [] = .ok (.va (.bl true)) st) : FnOk P w K mg base (L2.CX P w) (2 * k + 1) (T.f n) fd [x] (spLaw K) := by
  refine h.imp fun vs H Q E ⟨a, ns, e, hS, hn, q⟩ => ?_
  subst e
  obtain ⟨st, hc⟩ := hl ns hn
  refine ⟨⟨[], fun b => b = a ∧ H b ≠ none⟩, [.scr (ns.map .int)], [], ⟨rfl, fun i o b e => (by cases e), List.nodup_nil, fun b hb => (by cases hb), fun b hb => hb.2⟩, .cons (.scr ?_ (rvs_ints ns)) .nil, ?_, ?_⟩
  · rcases hS with hS | hS
    · refine .inl ⟨⟨rfl, ?_⟩, hS⟩
      rcases hS with hS | ⟨o, hS⟩ <;> rw [hS] <;> simp
    · exact .inr hS
  · exact hf
  · rw [hc]
    intro G' H' v _ _ r
    cases r with | va r => cases r with | bl => exact q H'
end BB

namespace BB
open PySem PySem.Spec PyProof.Rows L2
/-! words for runs -/
theorem eqW_ii (i j : Int) : eqW (.at (.int i)) (.at (.int j)) = some (decide (i = j)) := by
  show some (decide (V.int i = V.int j)) = _
  refine congrArg some ?_
  exact decide_eq_decide.mpr ⟨fun h => by injection h, fun h => by rw [h]⟩
theorem eqW_ss (i j : Str) : eqW (.at (.str i)) (.at (.str j)) = some (decide (i = j)) := by
  show some (decide (V.str i = V.str j)) = _
  refine congrArg some ?_
  exact decide_eq_decide.mpr ⟨fun h => by injection h, fun h => by rw [h]⟩
theorem eqW_bb (i j : Bool) : eqW (.at (.bl i)) (.at (.bl j)) = some (decide (i = j)) := by
  show some (decide (V.bl i = V.bl j)) = _
  refine congrArg some ?_
  exact decide_eq_decide.mpr ⟨fun h => by injection h, fun h => by rw [h]⟩
theorem mul_l {i j : Int} (h : -18446744073709551616 < i) (h2 : i < 18446744073709551616) : binV .Mult (.at (.int i)) (.at (.int j)) = some (.va (.int (i * j))) := by
  show (if CMul i j then _ else _) = _
  rw [if_pos (.inl ⟨h, h2⟩)]
theorem mul_r {i j : Int} (h : -18446744073709551616 < j) (h2 : j < 18446744073709551616) : binV .Mult (.at (.int i)) (.at (.int j)) = some (.va (.int (i * j))) := by
  show (if CMul i j then _ else _) = _
  rw [if_pos (.inr ⟨h, h2⟩)]
theorem mod_p {i j : Int} (h : 0 < j) : binV .Mod (.at (.int i)) (.at (.int j)) = some (.va (.int (i % j))) := if_pos h
theorem div_p {i j : Int} (h : 0 < j) (h2 : j < 1073741824) : binV .FloorDiv (.at (.int i)) (.at (.int j)) = some (.va (.int (i / j))) := if_pos ⟨h, .inl h2⟩
theorem add_i {i j : Int} : binV .Add (.at (.int i)) (.at (.int j)) = some (.va (.int (i + j))) := rfl
theorem sub_i {i j : Int} : binV .Sub (.at (.int i)) (.at (.int j)) = some (.va (.int (i - j))) := rfl
theorem add_l {x y : List D} (h : x.length + y.length ≤ 16777216) : binV .Add (.ls x) (.ls y) = some (.fl (x ++ y)) := if_pos (by rw [sizeLine_eq]; exact h)
theorem add_t {x y : List D} (h : (0 < x.length ∧ 0 < y.length) ∧ x.length + y.length ≤ 16777216) : binV .Add (.at (.tup x)) (.at (.tup y)) = some (.va (.tup (x ++ y))) := if_pos (by rw [sizeLine_eq]; exact h)
theorem add_s {x y : Str} (h : x.length + y.length ≤ 16777216) : binV .Add (.at (.str x)) (.at (.str y)) = some (.va (.str (x ++ y))) := if_pos (by rw [sizeLine_eq]; exact h)
theorem pow_i {i j : Int} (h : 0 ≤ j ∧ j ≤ 1000000) (h2 : -18446744073709551616 < i ∧ i < 18446744073709551616) : binV .Pow (.at (.int i)) (.at (.int j)) = some (.va (.int (i ^ j.toNat))) := if_pos ⟨h.1, h.2, by omega⟩
theorem lt_i {i j : Int} : cmpV .Lt (.at (.int i)) (.at (.int j)) = some (decide (i < j)) := rfl
theorem le_i {i j : Int} : cmpV .LtE (.at (.int i)) (.at (.int j)) = some (decide (i ≤ j)) := rfl
theorem gt_i {i j : Int} : cmpV .Gt (.at (.int i)) (.at (.int j)) = some (decide (j < i)) := rfl
theorem ge_i {i j : Int} : cmpV .GtE (.at (.int i)) (.at (.int j)) = some (decide (j ≤ i)) := rfl
theorem cmp_eq {u v : Vw} : cmpV .Eq u v = eqW u v := rfl
theorem cmp_ne {u v : Vw} : cmpV .NotEq u v = (eqW u v).map (!·) := rfl
theorem cmp_in {u v : Vw} : cmpV .In u v = inW u v := rfl
theorem cmp_nin {u v : Vw} : cmpV .NotIn u v = (inW u v).map (!·) := rfl
theorem cmp_is {u v : Vw} : cmpV .Is u v = isW u v := rfl
theorem cmp_isn {u v : Vw} : cmpV .IsNot u v = (isW u v).map (!·) := rfl
theorem set_e (env : List Slot) (st : Sto) (i : Nat) (x : Slot) : setE ⟨env, st⟩ i x = ⟨env.set i x, st⟩ := rfl
theorem bind_ok {α β : Type} (a : α) (s : S) (f : α → S → Oc β) : (Oc.ok a s).bind f = f a s := rfl
theorem fl_ok {α : Type} (a : α) (s : S) (f : α → S → Fl) : (Oc.ok a s).fl f = f a s := rfl
theorem asB_b (b : Bool) (s : S) : asB (.ok (.va (.bl b)) s) = .ok b s := rfl
theorem opt_s {α : Type} (a : α) (s : S) : opt (some a) s = .ok a s := rfl
theorem map_s {α β : Type} (a : α) (f : α → β) : Option.map f (some a) = some (f a) := rfl
theorem tup_ok {ds : List D} {s : S} (h : ds.length ≤ 16777216) : (if ds.length ≤ sizeLine then Oc.ok (R.va (.tup ds)) s else .bad) = .ok (.va (.tup ds)) s := if_pos (by rw [sizeLine_eq]; exact h)
theorem lst_ok {ds : List D} {s : S} (h : ds.length ≤ 16777216) : (if ds.length ≤ sizeLine then Oc.ok (R.fl ds) s else .bad) = .ok (.fl ds) s := if_pos (by rw [sizeLine_eq]; exact h)
/-! views -/
theorem view_int (s : S) (i : Int) : view s (.va (.int i)) = some (.at (.int i)) := rfl
theorem view_str (s : S) (i : Str) : view s (.va (.str i)) = some (.at (.str i)) := rfl
theorem view_bl (s : S) (i : Bool) : view s (.va (.bl i)) = some (.at (.bl i)) := rfl
theorem view_non (s : S) : view s (.va .non) = some (.at .non) := rfl
theorem view_tup (s : S) (l : List D) : view s (.va (.tup l)) = some (.at (.tup l)) := rfl
theorem view_lst (s : S) (l : List D) : view s (.va (.lst l)) = some (.ls l) := rfl
theorem view_fl (s : S) (l : List D) : view s (.fl l) = some (.ls l) := rfl
theorem view_scr (s : S) (l : List D) : view s (.va (.scr l)) = some (.sc l) := rfl
theorem view_ty (s : S) (n : String) : view s (.va (.ty n)) = some (.at (.ty n)) := rfl
theorem view_fd (s : S) (t : Bool) (l : List (D × D)) : view s (.fd t l) = some (.dc t l) := rfl
theorem view_dct (s : S) (t : Bool) (l : List (D × D)) : view s (.va (.dct t l)) = some (.dc t l) := rfl
/-- a for that goes through -/
theorem for_inv {b : D → S → Fl} (P : Nat → S → Prop) : ∀ (l : List D) (s : S) (n : Nat), P n s → (∀ i d s, l[i]? = some d → P (n + i) s → ∃ s', (b d s = .nx s' ∨ b d s = .ct s') ∧ P (n + i + 1) s') → ∃ s', forTurns b l s = .nx s' ∧ P (n + l.length) s'
  | [], s, n, h, _ => ⟨s, rfl, h⟩
  | d :: ds, s, n, h, st => by
    obtain ⟨s1, e1, p1⟩ := st 0 d s rfl h
    obtain ⟨s2, e2, p2⟩ := for_inv P ds s1 (n + 1) p1 fun i d' s' e p => by
      have := st (i + 1) d' s' e (by rw [show n + (i + 1) = n + 1 + i by omega]; exact p)
      rw [show n + (i + 1) + 1 = n + 1 + i + 1 by omega] at this
      exact this
    refine ⟨s2, ?_, by rw [List.length_cons, show n + (ds.length + 1) = n + 1 + ds.length by omega]; exact p2⟩
    unfold forTurns
    rcases e1 with e1 | e1 <;> rw [e1] <;> exact e2
theorem cal_h {PG : Prog} {k n c : Nat} {fs : List (Str × D)} {st : Sto} {f : FnD} (h0 : PG.fns[n]? = none) (h : PG.hfs[n - PG.fns.length]? = some f) : cal PG (k + 1) n [.exo c fs] st = outR (exb PG (cal PG k) f.body ⟨.xo c fs :: List.replicate (f.ns - 1) .no, st⟩) := by
  unfold cal
  rw [h0]
  dsimp only
  rw [h]
theorem cal_s {PG : Prog} {k n : Nat} {ds : List D} {st : Sto} {f : FnD} (h : PG.fns[n]? = some f) (h2 : ds.length = f.ps) : cal PG (k + 1) n ds st = outR (exb PG (cal PG k) f.body ⟨ds.map .va ++ List.replicate (f.ns - f.ps) .no, st⟩) := by
  unfold cal
  rw [h]
  exact if_pos h2
/-- the end of a law's row -/
theorem walk {l : PySem.W.OpenLaw} {k : Nat} {q : Program} {loose : List Str} {XP : (Str → Option Value) → Heap → Prop} {YP : World → Heap → Prop} {d : DefRec} {K : Params → PySem.W.Frag} (hn : l.most = some 63) (hdf : d.params.defaults = []) (hr : Room k callerA)
    (hY : ∀ (w : World) (h : Heap), YP w h → (K w.params).In h)
    (F : ∀ (w : World) (mg : Str → Option Value) (fa : Addr) (h : Heap), (K w.params).In h → h.Ns mainGlobals mg → mg d.name = some (.ref fa) →
      ∃ fd : FuncData, (∀ (s : Shared) (u : Value), BindsTo s fd ⟨[u], []⟩ [("_law_script", u)]) ∧ ∀ base : Heap, (K w.params).In base → base.Ns mainGlobals mg → FnOk l.prog w (K w.params) mg base (L2.CX l.prog w) k fa fd ["_law_script"] (spLaw (K w.params))) :
    PySem.W.WalkO q loose XP YP l.row.toRowW d [] (fun f vs => PySem.call f vs) :=
  L2.walk_of (n := 63) (k := k) (x := "_law_script") (CX := fun w => L2.CX l.prog w) (sp := fun w => spLaw (K w.params)) hn (by decide) hdf hr hY F (fun _ _ a ns hl _ hS => ⟨a, ns, rfl, hS, hl, fun _ => rfl⟩) fun w H s e s' h => by obtain ⟨_, _, _, _, _, _, _, _, _, _, _, _, z⟩ := h; exact z
end BB

namespace BB
open PySem PySem.Spec PyProof.Rows L2
/-- the signs of a text -/
def cs (x : Str) : List Nat := x.cps.toList
/-! runs, step by step: no continuation is opened ahead of its turn -/
section
variable (G : Prog) (cal : Nat → List D → Sto → CR)
/-- pure words of a step -/
def b2 (o : Operator) (u v : Option Vw) (s : S) : Oc R := match u, v with
  | some u, some v => opt (binV o u v) s
  | _, _ => .bad
def c2 (o : CmpOp) (u v : Option Vw) (s : S) : Oc R := match u, v with
  | some u, some v => opt ((cmpS s.st o u v).map fun t => .va (.bl t)) s
  | _, _ => .bad
def x2 (u v : Option Vw) (s : S) : Oc R := match u, v with
  | some u, some v => opt ((ixV u v).map .va) s
  | _, _ => .bad
def tup1 (r : Option (List D)) (s : S) : Oc R := match r with
  | some ds => if ds.length ≤ sizeLine then .ok (.va (.tup ds)) s else .bad
  | none => .bad
def lst1 (r : Option (List D)) (s : S) : Oc R := match r with
  | some ds => if ds.length ≤ sizeLine then .ok (.fl ds) s else .bad
  | none => .bad
def dct1 (r : Option (List (D × D))) (s : S) : Oc R := match r with
  | some q => if 0 < q.length ∧ q.length ≤ 15 then opt ((dputs [] q).map (.fd false)) s else .bad
  | none => .bad
def kTup (rs : List R) (s : S) : Oc R := tup1 (keepRs rs) s
def kLst (rs : List R) (s : S) : Oc R := lst1 (keepRs rs) s
def kDct (rs : List (R × R)) (s : S) : Oc R := dct1 (keepPs rs) s
def bt (t : Option R) (f : Oc R) (s : S) : Oc R := match t with
  | some r => .ok r s
  | none => f
def kBin2 (o : Operator) (x y : R) (s : S) : Oc R := bt (tupE o x y) (b2 o (view s x) (view s y) s) s
def kBin1 (o : Operator) (b : C) (x : R) (s : S) : Oc R := (ev G cal b s).bind (kBin2 o x)
def kCmp1 (o : CmpOp) (b : C) (x : R) (s : S) : Oc R := (ev G cal b s).bind fun y s => c2 o (view s x) (view s y) s
def kCmp2 (o : CmpOp) (x y : R) (s : S) : Oc R := c2 o (view s x) (view s y) s
def kIx1 (b : C) (x : R) (s : S) : Oc R := (ev G cal b s).bind fun y s => x2 (view s x) (view s y) s
def kIx2 (x y : R) (s : S) : Oc R := x2 (view s x) (view s y) s
def kCons1 (cs : CL) (r : R) (s : S) : Oc (List R) := (evL G cal cs s).bind fun rs s => .ok (r :: rs) s
def kCons2 (r : R) (rs : List R) (s : S) : Oc (List R) := .ok (r :: rs) s
def un1 (o : UnaryOp) (u : Option Vw) (s : S) : Oc R := match u with
  | some u => opt (unV o u) s
  | none => .bad
def kUn (o : UnaryOp) (x : R) (s : S) : Oc R := un1 o (view s x) s
def asBk (r : R) (s : S) : Oc Bool := match r with
  | .va (.bl b) => .ok b s
  | _ => .bad
def kAnd (es : CL) (t : Bool) (s : S) : Oc R := if t = true then evAnd G cal es s else .ok (.va (.bl false)) s
def kOr (es : CL) (t : Bool) (s : S) : Oc R := if t = true then .ok (.va (.bl true)) s else evOr G cal es s
def kNot (t : Bool) (s : S) : Oc R := .ok (.va (.bl (!t))) s
def kIfe (a b : C) (t : Bool) (s : S) : Oc R := if t = true then ev G cal a s else ev G cal b s
def call1 (n : Nat) (r : Option (List D)) (s : S) : Oc R := match r with
  | some ds => doCall cal n ds s
  | none => .bad
def kCall (n : Nat) (rs : List R) (s : S) : Oc R := call1 cal n (keepRs rs) s
def call2 (r : CR) (env : List Slot) : Oc R := match r with
  | .ok r st => .ok r ⟨env, st⟩
  | .ex c fs st => .ex c fs ⟨env, st⟩
  | .bad => .bad
def bi1 (b : Bi) (t : Bool) (r : Option (List Vw)) (s : S) : Oc R := match r with
  | some vs => if t = false ∨ b.notT = true then opt (biV b vs) s else .bad
  | none => .bad
def kBi (b : Bi) (rs : List R) (s : S) : Oc R := bi1 b (rs.any isKt) (views s rs) s
def mt1 (m : Mt) (a : Str) (r : Option (List Vw)) (s : S) : Oc R := match r with
  | some vs => opt (mtV m (.at (.str a)) vs) s
  | none => .bad
def kMt2 (m : Mt) (a : Str) (rs : List R) (s : S) : Oc R := mt1 m a (views s rs) s
def kMt1 (m : Mt) (es : CL) (x : R) (s : S) : Oc R := match x with
  | .va (.str a) => (evL G cal es s).bind (kMt2 m a)
  | _ => .bad
def g2k (q : Option (Sum Key (List Key))) (l : List (D × D)) (d : D) (s : S) : Oc R := match q with
  | some q => .ok (.va ((dget q l).getD d)) s
  | none => .bad
def g2c (u : Option (Bool × List (D × D))) (r : Option (List D)) (s : S) : Oc R := match u, r with
  | some (t, l), some [k, d] => g2k (keyT t k) l d s
  | _, _ => .bad
def kGet3 (x y z : R) (s : S) : Oc R := g2c (dcV (view s x)) (keepRs [y, z]) s
def kGet2 (b : C) (x y : R) (s : S) : Oc R := (ev G cal b s).bind (kGet3 x y)
def g2a (u : Option (Bool × List (D × D))) (a b : C) (x : R) (s : S) : Oc R := match u with
  | some _ => (ev G cal a s).bind (kGet2 G cal b x)
  | _ => .bad
def kGet1 (a b : C) (x : R) (s : S) : Oc R := g2a G cal (dcV (view s x)) a b x s
def dxk (q : Option (Sum Key (List Key))) (l : List (D × D)) (s : S) : Oc R := match q with
  | some q => opt ((dget q l).map .va) s
  | none => .bad
def dx2 (u : Option (Bool × List (D × D))) (k : Option D) (s : S) : Oc R := match u, k with
  | some (t, l), some k => dxk (keyT t k) l s
  | _, _ => .bad
def kDix2 (x y : R) (s : S) : Oc R := dx2 (dcV (view s x)) (keepR y) s
def kDix1 (b : C) (x : R) (s : S) : Oc R := (ev G cal b s).bind (kDix2 x)
def sl2 (t : Bool) (u : Option Vw) (lo hi : Option Int) (s : S) : Oc R := match u with
  | some u => if t = true then opt (slV u lo hi) s else .bad
  | none => .bad
def kSl3 (x : R) (lo hi : Option Int) (s : S) : Oc R := sl2 (kslOk x lo hi) (view s x) lo hi s
def kSl2 (hi : CO) (x : R) (lo : Option Int) (s : S) : Oc R := (evO G cal hi s).bind (kSl3 x lo)
def kSl1 (lo hi : CO) (x : R) (s : S) : Oc R := (evO G cal lo s).bind (kSl2 G cal hi x)
def kInt (r : R) (s : S) : Oc (Option Int) := match r with
  | .va (.int i) => .ok (some i) s
  | _ => .bad
def ch2 (o' : CmpOp) (v w : Option Vw) (s : S) : Oc R := match v, w with
  | some v, some w => opt ((cmpV o' v w).map fun t => .va (.bl t)) s
  | _, _ => .bad
def kCh3 (o' : CmpOp) (y z : R) (s : S) : Oc R := ch2 o' (view s y) (view s z) s
def ch1 (o' : CmpOp) (c : C) (y : R) (t : Option Bool) (s : S) : Oc R := match t with
  | some true => (ev G cal c s).bind (kCh3 o' y)
  | some false => .ok (.va (.bl false)) s
  | none => .bad
def ch0 (o o' : CmpOp) (c : C) (y : R) (u v : Option Vw) (s : S) : Oc R := match u, v with
  | some u, some v => ch1 G cal o' c y (cmpV o u v) s
  | _, _ => .bad
def kCh2 (o o' : CmpOp) (c : C) (x y : R) (s : S) : Oc R := ch0 G cal o o' c y (view s x) (view s y) s
def kCh1 (o o' : CmpOp) (b c : C) (x : R) (s : S) : Oc R := (ev G cal b s).bind (kCh2 G cal o o' c x)
def kSq (r : R) (s : S) : Oc (List D) := opt (sqItems s r) s
def kRng (r : R) (s : S) : Oc (List D) := match r with
  | .va (.int j) => if small62 j = true then .ok (rngD 0 j.toNat) s else .bad
  | _ => .bad
def enu1 (u : Option (List D)) (v : Option Vw) (s : S) : Oc (List D) := match u, v with
  | some l, some (.ls _) => .ok (enumD 0 l) s
  | _, _ => .bad
def kEnu (r : R) (s : S) : Oc (List D) := enu1 (sqItems s r) (view s r) s
def lcB (elt : C) (tg : Tg) (ifs : CL) (own : List (Str × Nat)) (d : D) (s : S) : Oc (Option D) := match bindT tg d s with
  | none => .bad
  | some s1 => (evIfs G cal ifs s1).bind fun t s2 => if t = true then (ev G cal elt s2).bind fun r s3 => (match keepR r with
      | some y => .ok (some y) (wipeE s3 (own.map (·.2)))
      | none => .bad) else .ok none (wipeE s2 (own.map (·.2)))
def kFl (ys : List D) (s : S) : Oc R := .ok (.fl ys) s
def kLc (elt : C) (tg : Tg) (ifs : CL) (own : List (Str × Nat)) (l : List D) (s : S) : Oc R :=
  (lcTurns (lcB G cal elt tg ifs own) l [] (wipeE s (own.map (·.2)))).bind kFl
def kPair2 (a b : R) (rs : List (R × R)) (s : S) : Oc (List (R × R)) := .ok ((a, b) :: rs) s
def kPair1 (r : CP) (a b : R) (s : S) : Oc (List (R × R)) := (evP G cal r s).bind (kPair2 a b)
def kPair0 (v : C) (r : CP) (a : R) (s : S) : Oc (List (R × R)) := (ev G cal v s).bind (kPair1 G cal r a)
theorem r_var (i x p s) : ev G cal (.var i x p) s = (match s.env[i]? with
    | some (.va d) => .ok (.va d) s
    | some (.ol _) => .ok (.own i) s
    | some (.od _ _) => .ok (.own i) s
    | _ => .bad) := rfl
def rv (i : Nat) (x : Option Slot) (s : S) : Oc R := match x with
    | some (.va d) => .ok (.va d) s
    | some (.ol _) => .ok (.own i) s
    | some (.od _ _) => .ok (.own i) s
    | _ => .bad
def rfz (i : Nat) (x : Option Slot) (s : S) : Oc R := match x with
    | some (.va d) => .ok (.va d) s
    | some (.ol l) => .ok (.va (.lst l)) (setE s i (.va (.lst l)))
    | some (.od t l) => .ok (.va (.dct t l)) (setE s i (.va (.dct t l)))
    | _ => .bad
def rmv (i : Nat) (x : Option Slot) (s : S) : Oc R := match x with
    | some (.va d) => .ok (.va d) s
    | some (.ol l) => .ok (.fl l) (setE s i .no)
    | some (.od t l) => .ok (.fd t l) (setE s i .no)
    | _ => .bad
def rgl (x : Option (Str × D)) (s : S) : Oc R := match x with
    | some (_, d) => .ok (.va d) s
    | none => .bad
@[simp] theorem ev_var (i x p s) : ev G cal (.var i x p) s = rv i s.env[i]? s := rfl
@[simp] theorem ev_fz (i x p s) : ev G cal (.fz i x p) s = rfz i s.env[i]? s := rfl
@[simp] theorem ev_mv (i x p s) : ev G cal (.mv i x p) s = rmv i s.env[i]? s := rfl
@[simp] theorem ev_glo (i x p s) : ev G cal (.glo i x p) s = rgl G.cst[i]? s := rfl
@[simp] theorem ev_cint (n k p s) : ev G cal (.cint n k p) s = .ok (.va (.int n)) s := rfl
@[simp] theorem ev_cbl (n k p s) : ev G cal (.cbl n k p) s = .ok (.va (.bl n)) s := rfl
@[simp] theorem ev_cnon (k p s) : ev G cal (.cnon k p) s = .ok (.va .non) s := rfl
@[simp] theorem ev_cstr (n k p s) : ev G cal (.cstr n k p) s = .ok (.va (.str n)) s := rfl
@[simp] theorem ev_bty (n x p s) : ev G cal (.bty n x p) s = .ok (.va (.ty n)) s := rfl
@[simp] theorem ev_tup (es k p s) : ev G cal (.tup es k p) s = (evL G cal es s).bind kTup := rfl
@[simp] theorem ev_lst (es p s) : ev G cal (.lst es p) s = (evL G cal es s).bind kLst := rfl
@[simp] theorem ev_dct (ps p s) : ev G cal (.dct ps p) s = (evP G cal ps s).bind kDct := rfl
@[simp] theorem ev_bin (o a b p s) : ev G cal (.bin o a b p) s = (ev G cal a s).bind (kBin1 G cal o b) := by
  show (ev G cal a s).bind _ = _
  congr 1
@[simp] theorem kBin1_s (o b x s) : kBin1 G cal o b x s = (ev G cal b s).bind (kBin2 o x) := rfl
@[simp] theorem kBin2_s (o x y s) : kBin2 o x y s = bt (tupE o x y) (b2 o (view s x) (view s y) s) s := rfl
@[simp] theorem ev_un (o a p s) : ev G cal (.un o a p) s = (ev G cal a s).bind (kUn o) := by
  show (ev G cal a s).bind _ = _
  congr 1
  funext x s1
  show _ = un1 o (view s1 x) s1
  cases view s1 x <;> rfl
@[simp] theorem kUn_s (o x s) : kUn o x s = un1 o (view s x) s := rfl
@[simp] theorem ev_cmp (o a b p s) : ev G cal (.cmp o a b p) s = (ev G cal a s).bind (kCmp1 G cal o b) := rfl
@[simp] theorem kCmp1_s (o b x s) : kCmp1 G cal o b x s = (ev G cal b s).bind (kCmp2 o x) := rfl
@[simp] theorem kCmp2_s (o x y s) : kCmp2 o x y s = c2 o (view s x) (view s y) s := rfl
@[simp] theorem ev_ix (a b p s) : ev G cal (.ix a b p) s = (ev G cal a s).bind (kIx1 G cal b) := rfl
@[simp] theorem kIx1_s (b x s) : kIx1 G cal b x s = (ev G cal b s).bind (kIx2 x) := rfl
@[simp] theorem kIx2_s (x y s) : kIx2 x y s = x2 (view s x) (view s y) s := rfl
@[simp] theorem ev_dix (a b p s) : ev G cal (.dix a b p) s = (ev G cal a s).bind (kDix1 G cal b) := by
  show (ev G cal a s).bind _ = _
  congr 1
@[simp] theorem kDix1_s (b x s) : kDix1 G cal b x s = (ev G cal b s).bind (kDix2 x) := rfl
@[simp] theorem kDix2_s (x y s) : kDix2 x y s = dx2 (dcV (view s x)) (keepR y) s := rfl
@[simp] theorem dx2_x (t l k s) : dx2 (some (t, l)) (some k) s = dxk (keyT t k) l s := rfl
@[simp] theorem dxk_s (q l s) : dxk (some q) l s = opt ((dget q l).map .va) s := rfl
def dik (n : Bool) (q : Option (Sum Key (List Key))) (l : List (D × D)) (s : S) : Oc R := match q with
  | some q => .ok (.va (.bl (if n = true then !(dget q l).isSome else (dget q l).isSome))) s
  | none => .bad
def din2 (n : Bool) (k : Option D) (u : Option (Bool × List (D × D))) (s : S) : Oc R := match k, u with
  | some k, some (t, l) => dik n (keyT t k) l s
  | _, _ => .bad
def kDin2 (n : Bool) (x y : R) (s : S) : Oc R := din2 n (keepR x) (dcV (view s y)) s
def kDin1 (n : Bool) (b : C) (x : R) (s : S) : Oc R := (ev G cal b s).bind (kDin2 n x)
@[simp] theorem ev_din (n a b p s) : ev G cal (.din n a b p) s = (ev G cal a s).bind (kDin1 G cal n b) := by
  show (ev G cal a s).bind _ = _
  congr 1
@[simp] theorem kDin1_s (n b x s) : kDin1 G cal n b x s = (ev G cal b s).bind (kDin2 n x) := rfl
@[simp] theorem kDin2_s (n x y s) : kDin2 n x y s = din2 n (keepR x) (dcV (view s y)) s := rfl
@[simp] theorem din2_x (n k t l s) : din2 n (some k) (some (t, l)) s = dik n (keyT t k) l s := rfl
@[simp] theorem dik_t (q l s) : dik true (some q) l s = .ok (.va (.bl (!(dget q l).isSome))) s := rfl
@[simp] theorem dik_f (q l s) : dik false (some q) l s = .ok (.va (.bl (dget q l).isSome)) s := rfl
@[simp] theorem ev_chain (o o' a b c p s) : ev G cal (.chain o o' a b c p) s = (ev G cal a s).bind (kCh1 G cal o o' b c) := rfl
@[simp] theorem kCh1_s (o o' b c x s) : kCh1 G cal o o' b c x s = (ev G cal b s).bind (kCh2 G cal o o' c x) := rfl
@[simp] theorem kCh2_s (o o' c x y s) : kCh2 G cal o o' c x y s = ch0 G cal o o' c y (view s x) (view s y) s := rfl
@[simp] theorem ch0_s (o o' c y u v s) : ch0 G cal o o' c y (some u) (some v) s = ch1 G cal o' c y (cmpV o u v) s := rfl
@[simp] theorem ch1_s (o' c y s) (t : Bool) : ch1 G cal o' c y (some t) s = if t = true then (ev G cal c s).bind (kCh3 o' y) else .ok (.va (.bl false)) s := by cases t <;> rfl
@[simp] theorem kCh3_s (o' y z s) : kCh3 o' y z s = ch2 o' (view s y) (view s z) s := rfl
@[simp] theorem ch2_s (o' v w s) : ch2 o' (some v) (some w) s = opt ((cmpV o' v w).map fun t => .va (.bl t)) s := rfl
@[simp] theorem ev_and (a es p s) : ev G cal (.and_ a es p) s = ((ev G cal a s).bind asBk).bind (kAnd G cal es) := rfl
@[simp] theorem ev_or (a es p s) : ev G cal (.or_ a es p) s = ((ev G cal a s).bind asBk).bind (kOr G cal es) := rfl
@[simp] theorem ev_not (a p s) : ev G cal (.not_ a p) s = ((ev G cal a s).bind asBk).bind kNot := rfl
@[simp] theorem ev_ife (t a b p s) : ev G cal (.ife t a b p) s = ((ev G cal t s).bind asBk).bind (kIfe G cal a b) := rfl
@[simp] theorem kAnd_s (es t s) : kAnd G cal es t s = if t = true then evAnd G cal es s else .ok (.va (.bl false)) s := rfl
@[simp] theorem kOr_s (es t s) : kOr G cal es t s = if t = true then .ok (.va (.bl true)) s else evOr G cal es s := rfl
@[simp] theorem kNot_s (t s) : kNot t s = .ok (.va (.bl (!t))) s := rfl
@[simp] theorem kIfe_s (a b t s) : kIfe G cal a b t s = if t = true then ev G cal a s else ev G cal b s := rfl
@[simp] theorem asBk_s (b s) : asBk (.va (.bl b)) s = .ok b s := rfl
@[simp] theorem ev_call (n x px es p s) : ev G cal (.call n x px es p) s = (evL G cal es s).bind (kCall cal n) := rfl
@[simp] theorem kCall_s (n rs s) : kCall cal n rs s = call1 cal n (keepRs rs) s := rfl
@[simp] theorem call1_s (n ds s) : call1 cal n (some ds) s = call2 (cal n ds s.st) s.env := by
  show doCall cal n ds s = _
  unfold doCall
  cases cal n ds s.st <;> rfl
@[simp] theorem call2_s (r st env) : call2 (.ok r st) env = .ok r ⟨env, st⟩ := rfl
@[simp] theorem ev_bi (b px es p s) : ev G cal (.bi b px es p) s = (evL G cal es s).bind (kBi b) := by
  show (evL G cal es s).bind _ = _
  congr 1
@[simp] theorem kBi_s (b rs s) : kBi b rs s = bi1 b (rs.any isKt) (views s rs) s := rfl
@[simp] theorem bi1_s (b vs s) : bi1 b false (some vs) s = opt (biV b vs) s := by
  unfold bi1
  simp
@[simp] theorem bi1_k (b vs s) : bi1 b true (some vs) s = if b.notT = true then opt (biV b vs) s else .bad := by
  unfold bi1
  simp
@[simp] theorem ev_mt (m o pa es p s) : ev G cal (.mt m o pa es p) s = (ev G cal o s).bind (kMt1 G cal m es) := by
  show (ev G cal o s).bind _ = _
  congr 1
  funext x s1
  match x with
  | .va (.str a) =>
    show (evL G cal es s1).bind _ = (evL G cal es s1).bind _
    congr 1
    funext rs s2
    show _ = mt1 m a (views s2 rs) s2
    cases views s2 rs <;> rfl
  | .va .non | .va (.bl _) | .va (.int _) | .va (.ty _) | .va (.fn _) | .va (.tup _) | .va (.ktup _) | .va (.lst _) | .va (.dct _ _) | .va (.ref _) | .va (.scr _) | .va (.exo _ _) | .fl _ | .fd _ _ | .own _ => rfl
@[simp] theorem kMt1_s (m es a s) : kMt1 G cal m es (.va (.str a)) s = (evL G cal es s).bind (kMt2 m a) := rfl
@[simp] theorem kMt2_s (m a rs s) : kMt2 m a rs s = mt1 m a (views s rs) s := rfl
@[simp] theorem mt1_s (m a vs s) : mt1 m a (some vs) s = opt (mtV m (.at (.str a)) vs) s := rfl
@[simp] theorem ev_get2 (o a b pa p s) : ev G cal (.get2 o a b pa p) s = (ev G cal o s).bind (kGet1 G cal a b) := by
  show (ev G cal o s).bind _ = _
  congr 1
@[simp] theorem kGet1_s (a b x s) : kGet1 G cal a b x s = g2a G cal (dcV (view s x)) a b x s := rfl
@[simp] theorem g2a_s (l a b x s) : g2a G cal (some l) a b x s = (ev G cal a s).bind (kGet2 G cal b x) := rfl
@[simp] theorem kGet2_s (b x y s) : kGet2 G cal b x y s = (ev G cal b s).bind (kGet3 x y) := rfl
@[simp] theorem kGet3_s (x y z s) : kGet3 x y z s = g2c (dcV (view s x)) (keepRs [y, z]) s := rfl
@[simp] theorem g2c_x (t l k d s) : g2c (some (t, l)) (some [k, d]) s = g2k (keyT t k) l d s := rfl
@[simp] theorem g2k_s (q l d s) : g2k (some q) l d s = .ok (.va ((dget q l).getD d)) s := rfl
@[simp] theorem ev_sl (a lo hi ps p s) : ev G cal (.sl a lo hi ps p) s = (ev G cal a s).bind (kSl1 G cal lo hi) := by
  show (ev G cal a s).bind _ = _
  congr 1
@[simp] theorem kSl1_s (lo hi x s) : kSl1 G cal lo hi x s = (evO G cal lo s).bind (kSl2 G cal hi x) := rfl
@[simp] theorem kSl2_s (hi x lo s) : kSl2 G cal hi x lo s = (evO G cal hi s).bind (kSl3 x lo) := rfl
@[simp] theorem kSl3_s (x lo hi s) : kSl3 x lo hi s = sl2 (kslOk x lo hi) (view s x) lo hi s := rfl
@[simp] theorem sl2_s (u lo hi s) : sl2 true (some u) lo hi s = opt (slV u lo hi) s := rfl
@[simp] theorem ev_lc (elt tg it ifs sc own p s) : ev G cal (.lc elt tg it ifs sc own p) s = (evI G cal it s).bind (kLc G cal elt tg ifs own) := rfl
theorem kLc_s (elt tg ifs own l s) : kLc G cal elt tg ifs own l s = (lcTurns (lcB G cal elt tg ifs own) l [] (wipeE s (own.map (·.2)))).bind kFl := rfl
@[simp] theorem kFl_s (ys s) : kFl ys s = .ok (.fl ys) s := rfl
@[simp] theorem evL_nil (s) : evL G cal .nil s = .ok [] s := rfl
@[simp] theorem evL_cons (c cs s) : evL G cal (.cons c cs) s = (ev G cal c s).bind (kCons1 G cal cs) := rfl
@[simp] theorem kCons1_s (cs r s) : kCons1 G cal cs r s = (evL G cal cs s).bind (kCons2 r) := rfl
@[simp] theorem kCons2_s (r rs s) : kCons2 r rs s = .ok (r :: rs) s := rfl
@[simp] theorem evP_nil (s) : evP G cal .nil s = .ok [] s := rfl
@[simp] theorem evP_cons (k v r s) : evP G cal (.cons k v r) s = (ev G cal k s).bind (kPair0 G cal v r) := rfl
@[simp] theorem kPair0_s (v r a s) : kPair0 G cal v r a s = (ev G cal v s).bind (kPair1 G cal r a) := rfl
@[simp] theorem kPair1_s (r a b s) : kPair1 G cal r a b s = (evP G cal r s).bind (kPair2 a b) := rfl
@[simp] theorem kPair2_s (a b rs s) : kPair2 a b rs s = .ok ((a, b) :: rs) s := rfl
@[simp] theorem evAnd_1 (c s) : evAnd G cal (.cons c .nil) s = ev G cal c s := rfl
@[simp] theorem evAnd_2 (c d ds s) : evAnd G cal (.cons c (.cons d ds)) s = ((ev G cal c s).bind asBk).bind (kAnd G cal (.cons d ds)) := rfl
@[simp] theorem evOr_1 (c s) : evOr G cal (.cons c .nil) s = ev G cal c s := rfl
@[simp] theorem evOr_2 (c d ds s) : evOr G cal (.cons c (.cons d ds)) s = ((ev G cal c s).bind asBk).bind (kOr G cal (.cons d ds)) := rfl
@[simp] theorem evIfs_0 (s) : evIfs G cal .nil s = .ok true s := rfl
@[simp] theorem evIfs_1 (c s) : evIfs G cal (.cons c .nil) s = (ev G cal c s).bind asBk := rfl
@[simp] theorem evO_no (s) : evO G cal .no s = .ok none s := rfl
@[simp] theorem evO_so (c s) : evO G cal (.so c) s = (ev G cal c s).bind kInt := rfl
@[simp] theorem kInt_s (i s) : kInt (.va (.int i)) s = .ok (some i) s := rfl
@[simp] theorem evI_sq (c s) : evI G cal (.sq c) s = (ev G cal c s).bind kSq := rfl
@[simp] theorem kSq_s (r s) : kSq r s = opt (sqItems s r) s := rfl
@[simp] theorem evI_rng (a px p s) : evI G cal (.rng1 a px p) s = (ev G cal a s).bind kRng := rfl
@[simp] theorem kRng_s (j s) : kRng (.va (.int j)) s = if small62 j = true then .ok (rngD 0 j.toNat) s else .bad := rfl
@[simp] theorem evI_enu (c px p s) : evI G cal (.enu c px p) s = (ev G cal c s).bind kEnu := by
  show (ev G cal c s).bind _ = _
  congr 1
@[simp] theorem kEnu_s (r s) : kEnu r s = enu1 (sqItems s r) (view s r) s := rfl
@[simp] theorem enu1_s (l m s) : enu1 (some l) (some (.ls m)) s = .ok (enumD 0 l) s := rfl
/-! flow -/
def seqF (cs : CB) (f : Fl) : Fl := match f with
  | .nx s1 => exb G cal cs s1
  | f => f
def set1 (i : Nat) (d : Option D) (s : S) : Fl := match d with
  | some d => .nx (setE s i (.va d))
  | none => .bad
def kSet (i : Nat) (r : R) (s : S) : Fl := set1 i (keepR r) s
def kSeto (i : Nat) (r : R) (s : S) : Fl := match r with
  | .fl l => .nx (setE s i (.ol l))
  | .fd t l => .nx (setE s i (.od t l))
  | .va d => .nx (setE s i (.va d))
  | .own _ => .bad
def opF (s : Option S) : Fl := match s with
  | some s => .nx s
  | none => .bad
def unp1 (l : List (Nat × Str × Pos)) (ds : Option (List D)) (s : S) : Fl := match ds with
  | some ds => opF (bindN l ds s)
  | none => .bad
def kUnp (l : List (Nat × Str × Pos)) (r : R) (s : S) : Fl := unp1 l (unpItems s r) s
def app2 (i : Nat) (d : Option D) (x : Option Slot) (s : S) : Fl := match d, x with
  | some d, some (.ol l) => if l.length < sizeLine then .nx (setE s i (.ol (l ++ [d]))) else .bad
  | _, _ => .bad
def kApp (i : Nat) (r : R) (s : S) : Fl := app2 i (keepR r) s.env[i]? s
def app1 (i : Nat) (c : C) (x : Option Slot) (s : S) : Fl := match x with
  | some (.ol _) => (ev G cal c s).fl (kApp i)
  | _ => .bad
def kNx (_ : R) (s : S) : Fl := .nx s
def kRt (r : R) (s : S) : Fl := .rt r s
def kIf (a b : CB) (t : Bool) (s : S) : Fl := if t = true then exb G cal a s else exb G cal b s
def forB (tg : Tg) (b : CB) (d : D) (s : S) : Fl := match bindT tg d s with
  | some s1 => exb G cal b s1
  | none => .bad
def kFor (tg : Tg) (b : CB) (l : List D) (s : S) : Fl := forTurns (forB G cal tg b) l s
def whT (t : C) (s : S) : Oc Bool := (ev G cal t s).bind asBk
def whB (b : CB) (s : S) : Fl := exb G cal b s
@[simp] theorem exs_tokm (c s) : exs G cal (.tokm c) s = exs G cal c s := rfl
@[simp] theorem exs_rep (i x px j y py c1 c2 k1 k2 q1 q2 pa pc p s) : exs G cal (.rep i x px j y py c1 c2 k1 k2 q1 q2 pa pc p) s = (repR j c1 c2 s).fl (kSet i) := rfl
@[simp] theorem exb_nil (s) : exb G cal .nil s = .nx s := rfl
@[simp] theorem exb_cons (c cs s) : exb G cal (.cons c cs) s = seqF G cal cs (exs G cal c s) := by
  show (match exs G cal c s with
    | .nx s1 => exb G cal cs s1
    | f => f) = _
  unfold seqF
  rfl
@[simp] theorem seqF_nx (cs s) : seqF G cal cs (.nx s) = exb G cal cs s := rfl
@[simp] theorem seqF_rt (cs r s) : seqF G cal cs (.rt r s) = .rt r s := rfl
@[simp] theorem seqF_bk (cs s) : seqF G cal cs (.bk s) = .bk s := rfl
@[simp] theorem seqF_ct (cs s) : seqF G cal cs (.ct s) = .ct s := rfl
@[simp] theorem seqF_ex (cs c fs s) : seqF G cal cs (.ex c fs s) = .ex c fs s := rfl
@[simp] theorem exs_set (i x px c p s) : exs G cal (.set i x px c p) s = (ev G cal c s).fl (kSet i) := rfl
@[simp] theorem kSet_s (i r s) : kSet i r s = set1 i (keepR r) s := rfl
@[simp] theorem set1_s (i d s) : set1 i (some d) s = .nx (setE s i (.va d)) := rfl
@[simp] theorem exs_seto (i x px c p s) : exs G cal (.seto i x px c p) s = (ev G cal c s).fl (kSeto i) := by
  show (ev G cal c s).fl _ = _
  congr 1
@[simp] theorem kSeto_fl (i l s) : kSeto i (.fl l) s = .nx (setE s i (.ol l)) := rfl
@[simp] theorem kSeto_fd (i t l s) : kSeto i (.fd t l) s = .nx (setE s i (.od t l)) := rfl
@[simp] theorem kSeto_va (i d s) : kSeto i (.va d) s = .nx (setE s i (.va d)) := rfl
@[simp] theorem exs_unp (l k pt c p s) : exs G cal (.unp l k pt c p) s = (ev G cal c s).fl (kUnp l) := by
  show (ev G cal c s).fl _ = _
  congr 1
@[simp] theorem kUnp_s (l r s) : kUnp l r s = unp1 l (unpItems s r) s := rfl
@[simp] theorem unp1_s (l ds s) : unp1 l (some ds) s = opF (bindN l ds s) := rfl
@[simp] theorem opF_s (s) : opF (some s) = .nx s := rfl
@[simp] theorem exs_app (i x px pa c pc p s) : exs G cal (.app i x px pa c pc p) s = app1 G cal i c s.env[i]? s := by
  show (match s.env[i]? with | some (.ol _) => _ | _ => _) = _
  cases s.env[i]? with
  | none => rfl
  | some x => cases x with
    | ol l =>
      show (ev G cal c s).fl _ = (ev G cal c s).fl _
      congr 1
    | _ => rfl
@[simp] theorem app1_s (i c l s) : app1 G cal i c (some (.ol l)) s = (ev G cal c s).fl (kApp i) := rfl
@[simp] theorem kApp_s (i r s) : kApp i r s = app2 i (keepR r) s.env[i]? s := rfl
theorem app2_s {i d l s} (h : l.length < 16777216) : app2 i (some d) (some (.ol l)) s = .nx (setE s i (.ol (l ++ [d]))) := if_pos (by rw [sizeLine_eq]; exact h)
@[simp] theorem exs_expr (c p s) : exs G cal (.expr c p) s = (ev G cal c s).fl kNx := rfl
@[simp] theorem kNx_s (r s) : kNx r s = .nx s := rfl
@[simp] theorem exs_ret (c p s) : exs G cal (.ret c p) s = (ev G cal c s).fl kRt := rfl
@[simp] theorem kRt_s (r s) : kRt r s = .rt r s := rfl
@[simp] theorem exs_ifs (t a b p s) : exs G cal (.ifs t a b p) s = ((ev G cal t s).bind asBk).fl (kIf G cal a b) := rfl
@[simp] theorem kIf_s (a b t s) : kIf G cal a b t s = if t = true then exb G cal a s else exb G cal b s := rfl
@[simp] theorem exs_for (tg it b p s) : exs G cal (.for_ tg it b p) s = (evI G cal it s).fl (kFor G cal tg b) := rfl
theorem kFor_s (tg b l s) : kFor G cal tg b l s = forTurns (forB G cal tg b) l s := rfl
theorem forB_s (tg b d s s1) (h : bindT tg d s = some s1) : forB G cal tg b d s = exb G cal b s1 := by unfold forB; rw [h]
@[simp] theorem forB_nm (i x p b d s) : forB G cal (.nm i x p) b d s = exb G cal b (setE s i (.va d)) := rfl
@[simp] theorem exs_pass (p s) : exs G cal (.pass p) s = .nx s := rfl
end
@[simp] theorem bind_ok' {α β : Type} (a : α) (s : S) (f : α → S → Oc β) : (Oc.ok a s).bind f = f a s := rfl
@[simp] theorem fl_ok' {α : Type} (a : α) (s : S) (f : α → S → Fl) : (Oc.ok a s).fl f = f a s := rfl
@[simp] theorem opt_s' {α : Type} (a : α) (s : S) : opt (some a) s = .ok a s := rfl
@[simp] theorem b2_s (o u v s) : b2 o (some u) (some v) s = opt (binV o u v) s := rfl
@[simp] theorem c2_s (o u v s) : c2 o (some u) (some v) s = opt ((cmpS s.st o u v).map fun t => .va (.bl t)) s := rfl
@[simp] theorem or2_s (t b) : or2 (some t) b = some t := rfl
@[simp] theorem or2_n (b) : or2 none b = b := rfl
@[simp] theorem qs_eq (st u v) : cmpS st .Eq u v = or2 (eqW u v) (eqB st u v) := rfl
@[simp] theorem qs_ne (st u v) : cmpS st .NotEq u v = (or2 (eqW u v) (eqB st u v)).map (!·) := rfl
@[simp] theorem qs_lt (st u v) : cmpS st .Lt u v = cmpV .Lt u v := rfl
@[simp] theorem qs_le (st u v) : cmpS st .LtE u v = cmpV .LtE u v := rfl
@[simp] theorem qs_gt (st u v) : cmpS st .Gt u v = cmpV .Gt u v := rfl
@[simp] theorem qs_ge (st u v) : cmpS st .GtE u v = cmpV .GtE u v := rfl
@[simp] theorem qs_in (st u v) : cmpS st .In u v = or2 (inW u v) (inB st u v) := rfl
@[simp] theorem qs_nin (st u v) : cmpS st .NotIn u v = (or2 (inW u v) (inB st u v)).map (!·) := rfl
@[simp] theorem qs_is (st u v) : cmpS st .Is u v = cmpV .Is u v := rfl
@[simp] theorem qs_isn (st u v) : cmpS st .IsNot u v = cmpV .IsNot u v := rfl
@[simp] theorem x2_s (u v s) : x2 (some u) (some v) s = opt ((ixV u v).map .va) s := rfl
@[simp] theorem un1_s (o u s) : un1 o (some u) s = opt (unV o u) s := rfl
@[simp] theorem unV_s (i : Int) : unV .USub (.at (.int i)) = some (.va (.int (-i))) := rfl
@[simp] theorem kTup_s (rs s) : kTup rs s = tup1 (keepRs rs) s := rfl
@[simp] theorem kLst_s (rs s) : kLst rs s = lst1 (keepRs rs) s := rfl
@[simp] theorem kDct_s (rs s) : kDct rs s = dct1 (keepPs rs) s := rfl
@[simp] theorem tup1_s (ds s) : tup1 (some ds) s = if ds.length ≤ 16777216 then .ok (.va (.tup ds)) s else .bad := rfl
@[simp] theorem lst1_s (ds s) : lst1 (some ds) s = if ds.length ≤ 16777216 then .ok (.fl ds) s else .bad := rfl
@[simp] theorem dct1_s (q s) : dct1 (some q) s = if 0 < q.length ∧ q.length ≤ 15 then opt ((dputs [] q).map (.fd false)) s else .bad := rfl
@[simp] theorem keepRs_nil : keepRs [] = some [] := rfl
def consO (a : Option D) (b : Option (List D)) : Option (List D) := match a, b with
  | some d, some ds => some (d :: ds)
  | _, _ => none
@[simp] theorem consO_s (a b) : consO (some a) (some b) = some (a :: b) := rfl
@[simp] theorem keepRs_cons (r rs) : keepRs (r :: rs) = consO (keepR r) (keepRs rs) := by
  show (match keepR r, keepRs rs with | some d, some ds => _ | _, _ => _) = _
  cases keepR r <;> cases keepRs rs <;> rfl
@[simp] theorem keepR_va (d) : keepR (.va d) = some d := rfl
@[simp] theorem keepR_fl (d) : keepR (.fl d) = some (.lst d) := rfl
@[simp] theorem keepR_fd (t d) : keepR (.fd t d) = some (.dct t d) := rfl
def consP (a b : Option D) (c : Option (List (D × D))) : Option (List (D × D)) := match a, b, c with
  | some d, some e, some ds => some ((d, e) :: ds)
  | _, _, _ => none
@[simp] theorem consP_s (a b c) : consP (some a) (some b) (some c) = some ((a, b) :: c) := rfl
@[simp] theorem keepPs_nil : keepPs [] = some [] := rfl
@[simp] theorem keepPs_cons (a b rs) : keepPs ((a, b) :: rs) = consP (keepR a) (keepR b) (keepPs rs) := by
  show (match keepR a, keepR b, keepPs rs with | some d, some e, some ds => _ | _, _, _ => _) = _
  cases keepR a <;> cases keepR b <;> cases keepPs rs <;> rfl
def consV (a : Option Vw) (b : Option (List Vw)) : Option (List Vw) := match a, b with
  | some d, some ds => some (d :: ds)
  | _, _ => none
@[simp] theorem consV_s (a b) : consV (some a) (some b) = some (a :: b) := rfl
@[simp] theorem views_nil (s) : views s [] = some [] := rfl
@[simp] theorem views_cons (s r rs) : views s (r :: rs) = consV (view s r) (views s rs) := by
  show (match view s r, views s rs with | some d, some ds => _ | _, _ => _) = _
  cases view s r <;> cases views s rs <;> rfl
@[simp] theorem rv_va (i d s) : rv i (some (.va d)) s = .ok (.va d) s := rfl
@[simp] theorem rv_ol (i d s) : rv i (some (.ol d)) s = .ok (.own i) s := rfl
@[simp] theorem rv_od (i t d s) : rv i (some (.od t d)) s = .ok (.own i) s := rfl
@[simp] theorem rfz_va (i d s) : rfz i (some (.va d)) s = .ok (.va d) s := rfl
@[simp] theorem rfz_ol (i d s) : rfz i (some (.ol d)) s = .ok (.va (.lst d)) (setE s i (.va (.lst d))) := rfl
@[simp] theorem rfz_od (i t d s) : rfz i (some (.od t d)) s = .ok (.va (.dct t d)) (setE s i (.va (.dct t d))) := rfl
@[simp] theorem rmv_va (i d s) : rmv i (some (.va d)) s = .ok (.va d) s := rfl
@[simp] theorem rmv_ol (i d s) : rmv i (some (.ol d)) s = .ok (.fl d) (setE s i .no) := rfl
@[simp] theorem rmv_od (i t d s) : rmv i (some (.od t d)) s = .ok (.fd t d) (setE s i .no) := rfl
@[simp] theorem rgl_s (x d s) : rgl (some (x, d)) s = .ok (.va d) s := rfl
@[simp] theorem setE_e (env st i x) : setE ⟨env, st⟩ i x = ⟨env.set i x, st⟩ := rfl
@[simp] theorem outR_rt_va (d s) : outR (.rt (.va d) s) = .ok (.va d) s.st := rfl
@[simp] theorem outR_rt_fl (d s) : outR (.rt (.fl d) s) = .ok (.fl d) s.st := rfl
@[simp] theorem outR_rt_fd (t d s) : outR (.rt (.fd t d) s) = .ok (.fd t d) s.st := rfl
@[simp] theorem outR_nx (s) : outR (.nx s) = .ok (.va .non) s.st := rfl
@[simp] theorem outR_ex (c fs s) : outR (.ex c fs s) = .ex c fs s.st := rfl
/-! tuples -/
@[simp] theorem bt_n (f s) : bt none f s = f := rfl
@[simp] theorem bt_s (r f s) : bt (some r) f s = .ok r s := rfl
@[simp] theorem te_i (o i y) : tupE o (.va (.int i)) y = none := by cases o <;> rfl
@[simp] theorem te_s (o i y) : tupE o (.va (.str i)) y = none := by cases o <;> rfl
@[simp] theorem te_k (o l y) : tupE o (.va (.ktup l)) y = none := by cases o <;> rfl
@[simp] theorem te_l (o l y) : tupE o (.va (.lst l)) y = none := by cases o <;> rfl
@[simp] theorem te_sc (o l y) : tupE o (.va (.scr l)) y = none := by cases o <;> rfl
@[simp] theorem te_r (o l y) : tupE o (.va (.ref l)) y = none := by cases o <;> rfl
@[simp] theorem te_f (o l y) : tupE o (.fl l) y = none := by cases o <;> rfl
@[simp] theorem te_o (o l y) : tupE o (.own l) y = none := by cases o <;> rfl
@[simp] theorem te_cc (a l b m) : tupE .Add (.va (.tup (a :: l))) (.va (.tup (b :: m))) = none := rfl
@[simp] theorem te_cn (l) : tupE .Add (.va (.tup l)) (.va (.tup [])) = if l.length ≤ 16777216 then some (.va (.tup l)) else none := by cases l <;> rfl
@[simp] theorem te_nc (l) : tupE .Add (.va (.tup [])) (.va (.tup l)) = if l.length ≤ 16777216 then some (.va (.tup l)) else none := rfl
@[simp] theorem te_tk (l m) : tupE .Add (.va (.tup l)) (.va (.ktup m)) = none := by cases l <;> rfl
theorem te_tt {l m : List D} (h1 : l ≠ []) (h2 : m ≠ []) : tupE .Add (.va (.tup l)) (.va (.tup m)) = none := by
  cases l with
  | nil => exact absurd rfl h1
  | cons a l => cases m with
    | nil => exact absurd rfl h2
    | cons b m => rfl
@[simp] theorem kt_i (i) : isKt (.va (.int i)) = false := rfl
@[simp] theorem kt_s (i) : isKt (.va (.str i)) = false := rfl
@[simp] theorem kt_b (i) : isKt (.va (.bl i)) = false := rfl
@[simp] theorem kt_n : isKt (.va .non) = false := rfl
@[simp] theorem kt_t (i) : isKt (.va (.tup i)) = false := rfl
@[simp] theorem kt_l (i) : isKt (.va (.lst i)) = false := rfl
@[simp] theorem kt_d (t i) : isKt (.va (.dct t i)) = false := rfl
@[simp] theorem kt_sc (i) : isKt (.va (.scr i)) = false := rfl
@[simp] theorem kt_r (i) : isKt (.va (.ref i)) = false := rfl
@[simp] theorem kt_ty (i) : isKt (.va (.ty i)) = false := rfl
@[simp] theorem kt_k (i) : isKt (.va (.ktup i)) = true := rfl
@[simp] theorem kt_fl (i) : isKt (.fl i) = false := rfl
@[simp] theorem kt_fd (t i) : isKt (.fd t i) = false := rfl
@[simp] theorem kt_o (i) : isKt (.own i) = false := rfl
@[simp] theorem ks_s (i lo hi) : kslOk (.va (.str i)) lo hi = true := rfl
@[simp] theorem ks_t (i lo hi) : kslOk (.va (.tup i)) lo hi = true := rfl
@[simp] theorem ks_l (i lo hi) : kslOk (.va (.lst i)) lo hi = true := rfl
@[simp] theorem ks_sc (i lo hi) : kslOk (.va (.scr i)) lo hi = true := rfl
@[simp] theorem ks_r (i lo hi) : kslOk (.va (.ref i)) lo hi = true := rfl
@[simp] theorem ks_fl (i lo hi) : kslOk (.fl i) lo hi = true := rfl
@[simp] theorem ks_o (i lo hi) : kslOk (.own i) lo hi = true := rfl
@[simp] theorem ks_k (l lo hi) : kslOk (.va (.ktup l)) lo hi = decide ((cutD l lo hi).length ≠ l.length) := rfl
@[simp] theorem dcV_dc (t l) : dcV (some (.dc t l)) = some (t, l) := rfl
@[simp] theorem dcV_dl (t l) : dcV (some (.dl t l)) = some (t, l) := rfl
@[simp] theorem keyT_s (k : Str) : keyT false (.str k) = some (.inl (.inr k)) := rfl
@[simp] theorem keyT_i (k : Int) : keyT false (.int k) = some (.inl (.inl k)) := rfl
@[simp] theorem keyT_2 (a b : Str) : keyT true (.tup [.str a, .str b]) = some (.inr [.inr a, .inr b]) := rfl
@[simp] theorem dkey_2 (a b : Str) : dkey (.tup [.str a, .str b]) = some (.inr [.inr a, .inr b]) := rfl
/-! views -/
@[simp] theorem vw_ktup (s : S) (l : List D) : view s (.va (.ktup l)) = some (.at (.tup l)) := rfl
@[simp] theorem vw_ref (s : S) (i : Nat) : view s (.va (.ref i)) = vwBx i s.st[i]? := rfl
@[simp] theorem vwBx_ls (i l) : vwBx i (some (.ls l)) = some (.ls l) := rfl
@[simp] theorem vwBx_dc (i t l) : vwBx i (some (.dc t l)) = some (.dc t l) := rfl
@[simp] theorem vwBx_ins (i c fs) : vwBx i (some (.ins c fs)) = some (.at (.ref i)) := rfl
@[simp] theorem vwBx_lkl (i l) : vwBx i (some (.lkl l)) = some (.ls l) := rfl
@[simp] theorem vwBx_lkd (i t l) : vwBx i (some (.lkd t l)) = some (.dl t l) := rfl
@[simp] theorem sqI_ktup (s l) : sqItems s (.va (.ktup l)) = some l := rfl
@[simp] theorem unI_ktup (s l) : unpItems s (.va (.ktup l)) = some l := rfl
@[simp] theorem bindT_ktp (l k p ds s) : bindT (.tp l k p) (.ktup ds) s = none := rfl
@[simp] theorem vw_non (s : S) : view s (.va .non) = some (.at .non) := rfl
@[simp] theorem vw_int (s : S) (i : Int) : view s (.va (.int i)) = some (.at (.int i)) := rfl
@[simp] theorem vw_str (s : S) (i : Str) : view s (.va (.str i)) = some (.at (.str i)) := rfl
@[simp] theorem vw_bl (s : S) (i : Bool) : view s (.va (.bl i)) = some (.at (.bl i)) := rfl
@[simp] theorem vw_tup (s : S) (l : List D) : view s (.va (.tup l)) = some (.at (.tup l)) := rfl
@[simp] theorem vw_lst (s : S) (l : List D) : view s (.va (.lst l)) = some (.ls l) := rfl
@[simp] theorem vw_dct (s : S) (t) (l) : view s (.va (.dct t l)) = some (.dc t l) := rfl
@[simp] theorem vw_scr (s : S) (l : List D) : view s (.va (.scr l)) = some (.sc l) := rfl
@[simp] theorem vw_ty (s : S) (n) : view s (.va (.ty n)) = some (.at (.ty n)) := rfl
@[simp] theorem vw_fl (s : S) (l : List D) : view s (.fl l) = some (.ls l) := rfl
@[simp] theorem vw_fd (s : S) (t) (l) : view s (.fd t l) = some (.dc t l) := rfl
@[simp] theorem vw_own (s : S) (i : Nat) : view s (.own i) = vwSl s.env[i]? := rfl
@[simp] theorem vwSl_ol (l) : vwSl (some (.ol l)) = some (.ls l) := rfl
@[simp] theorem vwSl_od (t l) : vwSl (some (.od t l)) = some (.dc t l) := rfl
@[simp] theorem sqI_lst (s l) : sqItems s (.va (.lst l)) = some l := rfl
@[simp] theorem sqI_fl (s l) : sqItems s (.fl l) = some l := rfl
@[simp] theorem sqI_tup (s l) : sqItems s (.va (.tup l)) = some l := rfl
@[simp] theorem sqI_str (s) (z : Str) : sqItems s (.va (.str z)) = some ((cs z).map fun c => .str ⟨#[c]⟩) := rfl
@[simp] theorem unI_lst (s l) : unpItems s (.va (.lst l)) = some l := rfl
@[simp] theorem unI_fl (s l) : unpItems s (.fl l) = some l := rfl
@[simp] theorem unI_tup (s l) : unpItems s (.va (.tup l)) = some l := rfl
@[simp] theorem bindN_0 (s) : bindN [] [] s = some s := rfl
@[simp] theorem bindN_1 (i x p r d ds s) : bindN ((i, x, p) :: r) (d :: ds) s = bindN r ds (setE s i (.va d)) := rfl
@[simp] theorem bindT_nm (i x p d s) : bindT (.nm i x p) d s = some (setE s i (.va d)) := rfl
@[simp] theorem bindT_tp (l k p ds s) : bindT (.tp l k p) (.tup ds) s = bindN l ds s := rfl
/-! values -/
@[simp] theorem q_ii (i j : Int) : eqW (.at (.int i)) (.at (.int j)) = some (decide (i = j)) := eqW_ii i j
@[simp] theorem q_ss (i j : Str) : eqW (.at (.str i)) (.at (.str j)) = some (decide (i = j)) := eqW_ss i j
@[simp] theorem q_bb (i j : Bool) : eqW (.at (.bl i)) (.at (.bl j)) = some (decide (i = j)) := eqW_bb i j
@[simp] theorem q_lt {i j : Int} : cmpV .Lt (.at (.int i)) (.at (.int j)) = some (decide (i < j)) := rfl
@[simp] theorem q_le {i j : Int} : cmpV .LtE (.at (.int i)) (.at (.int j)) = some (decide (i ≤ j)) := rfl
@[simp] theorem q_gt {i j : Int} : cmpV .Gt (.at (.int i)) (.at (.int j)) = some (decide (j < i)) := rfl
@[simp] theorem q_ge {i j : Int} : cmpV .GtE (.at (.int i)) (.at (.int j)) = some (decide (j ≤ i)) := rfl
@[simp] theorem q_eq {u v : Vw} : cmpV .Eq u v = eqW u v := rfl
@[simp] theorem q_ne {u v : Vw} : cmpV .NotEq u v = (eqW u v).map (!·) := rfl
@[simp] theorem q_in {u v : Vw} : cmpV .In u v = inW u v := rfl
@[simp] theorem q_nin {u v : Vw} : cmpV .NotIn u v = (inW u v).map (!·) := rfl
@[simp] theorem q_is {u v : Vw} : cmpV .Is u v = isW u v := rfl
@[simp] theorem q_isn {u v : Vw} : cmpV .IsNot u v = (isW u v).map (!·) := rfl
@[simp] theorem v_add {i j : Int} : binV .Add (.at (.int i)) (.at (.int j)) = some (.va (.int (i + j))) := rfl
@[simp] theorem v_sub {i j : Int} : binV .Sub (.at (.int i)) (.at (.int j)) = some (.va (.int (i - j))) := rfl
@[simp] theorem v_mul {i j : Int} : binV .Mult (.at (.int i)) (.at (.int j)) = if (-18446744073709551616 < i ∧ i < 18446744073709551616) ∨ (-18446744073709551616 < j ∧ j < 18446744073709551616) then some (.va (.int (i * j))) else none := by
  show (if CMul i j then _ else _) = _
  unfold CMul
  simp only [show (-(2 : Int) ^ 64) = -18446744073709551616 by decide, show ((2 : Int) ^ 64) = 18446744073709551616 by decide]
@[simp] theorem v_mod {i j : Int} : binV .Mod (.at (.int i)) (.at (.int j)) = if 0 < j then some (.va (.int (i % j))) else none := rfl
@[simp] theorem v_div {i j : Int} : binV .FloorDiv (.at (.int i)) (.at (.int j)) = if 0 < j ∧ (j < 1073741824 ∨ j < 18446744073709551616) then some (.va (.int (i / j))) else none := rfl
@[simp] theorem v_shl {i j : Int} : binV .LShift (.at (.int i)) (.at (.int j)) = if 0 ≤ j ∧ j ≤ 1000000 ∧ i.natAbs < 18446744073709551616 then some (.va (.int (i * 2 ^ j.toNat))) else none := rfl
@[simp] theorem v_pow {i j : Int} : binV .Pow (.at (.int i)) (.at (.int j)) = if 0 ≤ j ∧ j ≤ 1000000 ∧ i.natAbs < 18446744073709551616 then some (.va (.int (i ^ j.toNat))) else none := rfl
@[simp] theorem v_adds {x y : Str} : binV .Add (.at (.str x)) (.at (.str y)) = if x.length + y.length ≤ 16777216 then some (.va (.str (x ++ y))) else none := rfl
@[simp] theorem v_addl {x y : List D} : binV .Add (.ls x) (.ls y) = if x.length + y.length ≤ 16777216 then some (.fl (x ++ y)) else none := rfl
@[simp] theorem v_addt {x y : List D} : binV .Add (.at (.tup x)) (.at (.tup y)) = if (0 < x.length ∧ 0 < y.length) ∧ x.length + y.length ≤ 16777216 then some (.va (.tup (x ++ y))) else none := rfl
@[simp] theorem v_mull {x : List D} {j : Int} : binV .Mult (.ls x) (.at (.int j)) = if 0 ≤ j ∧ j ≤ 1000 ∧ x.length * j.toNat ≤ 1000000 then some (.fl (List.replicate j.toNat x).flatten) else none := rfl
@[simp] theorem v_muls {x : Str} {j : Int} : binV .Mult (.at (.str x)) (.at (.int j)) = if 0 ≤ j ∧ j ≤ 16777216 ∧ x.length * j.toNat ≤ 16777216 then some (.va (.str (Txt.mul x j))) else none := rfl
@[simp] theorem ix_ls (l i) : ixV (.ls l) (.at (.int i)) = atI l i := rfl
@[simp] theorem ix_sc (l i) : ixV (.sc l) (.at (.int i)) = atI l i := rfl
@[simp] theorem ix_tup (l i) : ixV (.at (.tup l)) (.at (.int i)) = atI l i := rfl
theorem atI_of {α : Type} {l : List α} {i : Int} (h : 0 ≤ i) (h2 : i < l.length) : atI l i = l[i.toNat]? := by
  unfold atI ixN
  rw [if_pos h, if_pos h2]
  rfl
theorem atI_neg {α : Type} {l : List α} {i : Int} (h : i < 0) (h2 : -(l.length : Int) ≤ i) : atI l i = l[(i + l.length).toNat]? := by
  unfold atI ixN
  rw [if_neg (by omega), if_pos h2]
  rfl
@[simp] theorem atI_lit {α : Type} {l : List α} {n : Nat} : atI l (no_index (OfNat.ofNat n : Int)) = l[n]? := by
  show atI l (n : Int) = _
  unfold atI ixN
  rw [if_pos (by omega)]
  by_cases h : (n : Int) < l.length
  · rw [if_pos h]; rfl
  · rw [if_neg h, List.getElem?_eq_none (by omega)]; rfl
@[simp] theorem sl_ls (l lo hi) : slV (.ls l) lo hi = some (.fl (cutD l lo hi)) := rfl
@[simp] theorem sl_sc (l lo hi) : slV (.sc l) lo hi = some (.fl (cutD l lo hi)) := rfl
@[simp] theorem sl_tup (l lo hi) : slV (.at (.tup l)) lo hi = some (.va (.tup (cutD l lo hi))) := rfl
@[simp] theorem cut_to (l : List D) (n : Nat) : cutD l none (some (no_index (OfNat.ofNat n : Int))) = l.take n := by
  show (l.drop (HT.sIx l.length 0 none)).take (HT.sIx l.length l.length (some (n : Int)) - HT.sIx l.length 0 none) = _
  have e : HT.sIx l.length l.length (some (n : Int)) = min n l.length := HT.sIx_nat _ _ _
  rw [e]
  show (l.drop 0).take (min n l.length - 0) = _
  rw [List.drop_zero, Nat.sub_zero]
  rcases Nat.le_total n l.length with h | h
  · rw [Nat.min_eq_left h]
  · rw [Nat.min_eq_right h, List.take_length, List.take_of_length_le h]
@[simp] theorem cut_from (l : List D) (n : Nat) : cutD l (some (no_index (OfNat.ofNat n : Int))) none = l.drop n := by
  show (l.drop (HT.sIx l.length 0 (some (n : Int)))).take (HT.sIx l.length l.length none - HT.sIx l.length 0 (some (n : Int))) = _
  rw [HT.sIx_nat]
  show (l.drop (min n l.length)).take (l.length - min n l.length) = _
  rw [List.take_of_length_le (by rw [List.length_drop]; omega)]
  rcases Nat.le_total n l.length with h | h
  · rw [Nat.min_eq_left h]
  · rw [Nat.min_eq_right h, List.drop_length, List.drop_eq_nil_of_le h]
@[simp] theorem bi_len (l) : biV .len [.ls l] = some (.va (.int l.length)) := rfl
@[simp] theorem bi_lens (l) : biV .len [.sc l] = some (.va (.int l.length)) := rfl
@[simp] theorem bi_lent (l) : biV .len [.at (.tup l)] = some (.va (.int l.length)) := rfl
@[simp] theorem bi_lend (t l) : biV .len [.dc t l] = some (.va (.int l.length)) := rfl
@[simp] theorem bi_lenx (z) : biV .len [.at (.str z)] = if z.length ≤ 16777216 then some (.va (.int z.length)) else none := rfl
@[simp] theorem bi_int (i) : biV .int [.at (.int i)] = some (.va (.int i)) := rfl
@[simp] theorem bi_intb (b) : biV .int [.at (.bl b)] = some (.va (.int (if b = true then 1 else 0))) := rfl
@[simp] theorem bi_abs (i : Int) : biV .abs [.at (.int i)] = some (.va (.int (if i < 0 then -i else i))) := rfl
@[simp] theorem bi_max (i j) : biV .max [.at (.int i), .at (.int j)] = some (.va (.int (if j > i then j else i))) := rfl
@[simp] theorem bi_min (i j) : biV .min [.at (.int i), .at (.int j)] = some (.va (.int (if j < i then j else i))) := rfl
@[simp] theorem bi_stri (i : Int) : biV .str [.at (.int i)] = if i.natAbs.log2 < 1920 then some (.va (.str (toString i))) else none := rfl
@[simp] theorem bi_strs (i) : biV .str [.at (.str i)] = some (.va (.str i)) := rfl
@[simp] theorem bi_list (l) : biV .list [.ls l] = some (.fl l) := rfl
@[simp] theorem bi_listt (l) : biV .list [.at (.tup l)] = some (.fl l) := rfl
@[simp] theorem bi_tuple (l) : biV .tuple [.ls l] = some (.va (.tup l)) := rfl
@[simp] theorem bi_tuplet (l) : biV .tuple [.at (.tup l)] = some (.va (.tup l)) := rfl
@[simp] theorem small62_s (j : Int) : small62 j = (decide (-4611686018427387904 ≤ j) && decide (j < 4611686018427387904)) := rfl
@[simp] theorem flats_nil : flats [] = some [] := rfl
def consF (a : Option V) (b : Option (List V)) : Option (List V) := match a, b with
  | some v, some vs => if flatV v = true then some (v :: vs) else none
  | _, _ => none
@[simp] theorem flats_cons (d ds) : flats (d :: ds) = consF (flatD d) (flats ds) := by
  show (match flatD d, flats ds with | some d, some ds => _ | _, _ => _) = _
  cases flatD d <;> cases flats ds <;> rfl
@[simp] theorem consF_i (i : Int) (b) : consF (some (.int i)) (some b) = some (.int i :: b) := rfl
@[simp] theorem consF_s (i : Str) (b) : consF (some (.str i)) (some b) = some (.str i :: b) := rfl
@[simp] theorem consF_b (i : Bool) (b) : consF (some (.bl i)) (some b) = some (.bl i :: b) := rfl
@[simp] theorem consF_n (b) : consF (some .non) (some b) = some (.non :: b) := rfl
@[simp] theorem flatD_i (i) : flatD (.int i) = some (.int i) := rfl
@[simp] theorem flatD_s (i) : flatD (.str i) = some (.str i) := rfl
@[simp] theorem flatD_b (i) : flatD (.bl i) = some (.bl i) := rfl
@[simp] theorem flatD_n : flatD .non = some .non := rfl
def in1 (v : Option V) (vs : Option (List V)) : Option Bool := match v, vs with
  | some v, some vs => if flatV v = true then some (inV v vs) else none
  | _, _ => none
theorem inW_ls (d l) (h : scalD d ≠ none) : inW (.at d) (.ls l) = in1 (flatD d) (flats l) := by
  cases d <;> first | rfl | exact absurd rfl h
theorem inW_tup (d l) (h : scalD d ≠ none) : inW (.at d) (.at (.tup l)) = in1 (flatD d) (flats l) := by
  cases d <;> first | rfl | exact absurd rfl h
@[simp] theorem in_i_ls (i : Int) (l) : inW (.at (.int i)) (.ls l) = in1 (flatD (.int i)) (flats l) := rfl
@[simp] theorem in_s_ls (i : Str) (l) : inW (.at (.str i)) (.ls l) = in1 (flatD (.str i)) (flats l) := rfl
@[simp] theorem in_n_ls (l) : inW (.at .non) (.ls l) = in1 (flatD .non) (flats l) := rfl
@[simp] theorem in_i_tup (i : Int) (l) : inW (.at (.int i)) (.at (.tup l)) = in1 (flatD (.int i)) (flats l) := rfl
@[simp] theorem in_s_tup (i : Str) (l) : inW (.at (.str i)) (.at (.tup l)) = in1 (flatD (.str i)) (flats l) := rfl
@[simp] theorem in_n_tup (l) : inW (.at .non) (.at (.tup l)) = in1 (flatD .non) (flats l) := rfl
@[simp] theorem in1_s (v : Str) (vs) : in1 (some (.str v)) (some vs) = some (vs.any fun y => eqV y (.str v)) := rfl
@[simp] theorem in1_i (v : Int) (vs) : in1 (some (.int v)) (some vs) = some (vs.any fun y => eqV y (.int v)) := rfl
@[simp] theorem lit_eq (a b : String) : (Str.ofString a = Str.ofString b) ↔ (a = b) := by
  refine ⟨fun h => ?_, fun h => by rw [h]⟩
  rw [Str.ofString_eq_toList, Str.ofString_eq_toList] at h
  injection h with h
  have h2 : a.toList.map Char.toNat = b.toList.map Char.toNat := by
    have := congrArg Array.toList h
    simpa using this
  have inj : ∀ x y : Char, x.toNat = y.toNat → x = y := fun x y e => Char.ext (UInt32.toNat_inj.mp e)
  have gen : ∀ l m : List Char, l.map Char.toNat = m.map Char.toNat → l = m := by
    intro l
    induction l with
    | nil => intro m e; cases m with
      | nil => rfl
      | cons y ys => simp at e
    | cons x xs ih => intro m e; cases m with
      | nil => simp at e
      | cons y ys =>
        rw [List.map_cons, List.map_cons] at e
        injection e with e1 e2
        rw [inj x y e1, ih ys e2]
  have := gen _ _ h2
  exact String.toList_inj.mp this
@[simp] theorem eqV_ss (a b : Str) : eqV (.str a) (.str b) = decide (b = a) := by
  show (a == b) = _
  exact Bool.eq_iff_iff.mpr ⟨fun h => by simpa using (eq_of_beq h).symm, fun h => by simpa using (of_decide_eq_true h).symm⟩
@[simp] theorem eqV_ii (a b : Int) : eqV (.int a) (.int b) = decide (b = a) := by
  show (a == b) = _
  exact Bool.eq_iff_iff.mpr ⟨fun h => by simpa using (eq_of_beq h).symm, fun h => by simpa using (of_decide_eq_true h).symm⟩
@[simp] theorem eqV_si (a : Str) (b : Int) : eqV (.str a) (.int b) = false := rfl
@[simp] theorem eqV_is (a : Int) (b : Str) : eqV (.int a) (.str b) = false := rfl
/-! forks -/
section
variable {α β : Type} {p : Prop} [Decidable p]
@[simp] theorem seqF_if (G cal cs) (f g : Fl) : seqF G cal cs (if p then f else g) = if p then seqF G cal cs f else seqF G cal cs g := apply_ite _ _ _ _
@[simp] theorem outR_if (f g : Fl) : outR (if p then f else g) = if p then outR f else outR g := apply_ite _ _ _ _
@[simp] theorem bind_if (x y : Oc α) (f : α → S → Oc β) : (if p then x else y).bind f = if p then x.bind f else y.bind f := apply_ite (fun o => Oc.bind o f) _ _ _
@[simp] theorem fl_if (x y : Oc α) (f : α → S → Fl) : (if p then x else y).fl f = if p then x.fl f else y.fl f := apply_ite (fun o => Oc.fl o f) _ _ _
@[simp] theorem bad_bind (f : α → S → Oc β) : (Oc.bad : Oc α).bind f = .bad := rfl
@[simp] theorem bad_fl (f : α → S → Fl) : (Oc.bad : Oc α).fl f = .bad := rfl
@[simp] theorem ex_bind (c fs s) (f : α → S → Oc β) : (Oc.ex c fs s : Oc α).bind f = .ex c fs s := rfl
@[simp] theorem ex_fl (c fs s) (f : α → S → Fl) : (Oc.ex c fs s : Oc α).fl f = .ex c fs s := rfl
@[simp] theorem seqF_bad (G cal cs) : seqF G cal cs .bad = .bad := rfl
@[simp] theorem opt_if (x y : Option α) (s : S) : opt (if p then x else y) s = if p then opt x s else opt y s := apply_ite (fun o => opt o s) _ _ _
@[simp] theorem opt_n (s : S) : opt (none : Option α) s = .bad := rfl
end
theorem rngD_at : ∀ (n : Nat) (lo : Int) (i : Nat) (d : D), (rngD lo n)[i]? = some d → d = .int (lo + i) ∧ i < n
  | 0, lo, i, d, h => by cases h
  | n + 1, lo, 0, d, h => by cases h; exact ⟨by simp, by omega⟩
  | n + 1, lo, i + 1, d, h => by
    obtain ⟨e, h2⟩ := rngD_at n (lo + 1) i d (by simpa [rngD] using h)
    exact ⟨by rw [e]; congr 1; omega, by omega⟩
theorem rngD_size : ∀ (n : Nat) (lo : Int), (rngD lo n).length = n
  | 0, lo => rfl
  | n + 1, lo => by show (rngD (lo + 1) n).length + 1 = n + 1; rw [rngD_size]
/-- a for over a range -/
theorem for_rng {b : D → S → Fl} (P : Nat → S → Prop) (n : Nat) (s : S) (h : P 0 s) (st : ∀ i s, i < n → P i s → ∃ s', (b (.int i) s = .nx s' ∨ b (.int i) s = .ct s') ∧ P (i + 1) s') : ∃ s', forTurns b (rngD 0 n) s = .nx s' ∧ P n s' := by
  obtain ⟨s', e, p⟩ := for_inv P (rngD 0 n) s 0 h fun i d s e p => by
    obtain ⟨rfl, hi⟩ := rngD_at n 0 i d e
    rw [Int.zero_add, Nat.zero_add]
    rw [Nat.zero_add] at p
    exact st i s hi p
  rw [rngD_size, Nat.zero_add] at p
  exact ⟨s', e, p⟩
/-- one turn, its target's names forgotten -/
def forN (G : Prog) (cal : Nat → List D → Sto → CR) (i : Nat) (b : CB) (d : D) (s : S) : Fl := exb G cal b (setE s i (.va d))
def bindI : List Nat → List D → S → Option S
  | [], [], s => some s
  | i :: r, d :: ds, s => bindI r ds (setE s i (.va d))
  | _, _, _ => none
@[simp] theorem bindI_0 (s) : bindI [] [] s = some s := rfl
@[simp] theorem bindI_1 (i r d ds s) : bindI (i :: r) (d :: ds) s = bindI r ds (setE s i (.va d)) := rfl
theorem bindN_I : ∀ (l : List (Nat × Str × Pos)) (ds : List D) (s : S), bindN l ds s = bindI (l.map (·.1)) ds s
  | [], [], _ => rfl
  | [], _ :: _, _ => rfl
  | (_, _, _) :: _, [], _ => rfl
  | (i, _, _) :: r, d :: ds, s => bindN_I r ds _
def exO (G : Prog) (cal : Nat → List D → Sto → CR) (b : CB) (o : Option S) : Fl := match o with
  | some s => exb G cal b s
  | none => .bad
@[simp] theorem exO_s (G cal b s) : exO G cal b (some s) = exb G cal b s := rfl
def forT (G : Prog) (cal : Nat → List D → Sto → CR) (is : List Nat) (b : CB) (d : D) (s : S) : Fl := match d with
  | .tup ds => exO G cal b (bindI is ds s)
  | _ => .bad
@[simp] theorem forT_s (G cal is b ds s) : forT G cal is b (.tup ds) s = exO G cal b (bindI is ds s) := rfl
@[simp] theorem forN_s (G cal i b d s) : forN G cal i b d s = exb G cal b (setE s i (.va d)) := rfl
@[simp] theorem kFor_nm (G cal i x p b l s) : kFor G cal (.nm i x p) b l s = forTurns (forN G cal i b) l s := rfl
@[simp] theorem kFor_tp (G cal l k p b ds s) : kFor G cal (.tp l k p) b ds s = forTurns (forT G cal (l.map (·.1)) b) ds s := by
  rw [kFor_s]
  congr 1
  funext d s
  unfold forB
  cases d with
  | tup ds =>
    show (match bindN l ds s with | some s1 => _ | none => _) = exO G cal b (bindI _ ds s)
    rw [bindN_I]
    cases bindI (l.map (·.1)) ds s <;> rfl
  | _ => rfl
/-! turns one by one -/
def nextF (b : D → S → Fl) (ds : List D) (f : Fl) : Fl := match f with
  | .nx s1 => forTurns b ds s1
  | .ct s1 => forTurns b ds s1
  | .bk s1 => .nx s1
  | f => f
@[simp] theorem forTurns_nil (b s) : forTurns b [] s = .nx s := rfl
theorem forTurns_cons (b d ds s) : forTurns b (d :: ds) s = nextF b ds (b d s) := rfl
@[simp] theorem nextF_nx (b ds s) : nextF b ds (.nx s) = forTurns b ds s := rfl
@[simp] theorem nextF_ct (b ds s) : nextF b ds (.ct s) = forTurns b ds s := rfl
@[simp] theorem nextF_bk (b ds s) : nextF b ds (.bk s) = .nx s := rfl
@[simp] theorem nextF_rt (b ds r s) : nextF b ds (.rt r s) = .rt r s := rfl
@[simp] theorem nextF_ex (b ds c fs s) : nextF b ds (.ex c fs s) = .ex c fs s := rfl
@[simp] theorem nextF_bad (b ds) : nextF b ds .bad = .bad := rfl
@[simp] theorem nextF_if {p : Prop} [Decidable p] (b ds) (f g : Fl) : nextF b ds (if p then f else g) = if p then nextF b ds f else nextF b ds g := apply_ite _ _ _ _
/-! dicts -/
@[simp] theorem dkey_s (x : Str) : dkey (.str x) = some (.inl (.inr x)) := rfl
@[simp] theorem dkey_i (x : Int) : dkey (.int x) = some (.inl (.inl x)) := rfl
@[simp] theorem dget_nil (k) : dget k [] = none := rfl
theorem dget_cons (k a v r) : dget k ((a, v) :: r) = if dkey a = some k then some v else dget k r := by
  unfold dget
  rw [List.find?_cons]
  by_cases h : dkey a = some k
  · rw [if_pos h]; simp [h]
  · rw [if_neg h]; simp [h]
@[simp] theorem dget_ss (k x : Str) (v r) : dget (.inl (.inr k)) ((.str x, v) :: r) = if x = k then some v else dget (.inl (.inr k)) r := by
  rw [dget_cons]; simp
@[simp] theorem dget_ii (k x : Int) (v r) : dget (.inl (.inl k)) ((.int x, v) :: r) = if x = k then some v else dget (.inl (.inl k)) r := by
  rw [dget_cons]; simp
@[simp] theorem dputs_nil (a) : dputs a [] = some a := rfl
@[simp] theorem dputs_s (a) (x : Str) (v r) : dputs a ((.str x, v) :: r) = dputs (dput (.str x) (.inl (.inr x)) v a) r := rfl
@[simp] theorem dputs_i (a) (x : Int) (v r) : dputs a ((.int x, v) :: r) = dputs (dput (.int x) (.inl (.inl x)) v a) r := rfl
theorem atI_map {α : Type} (f : α → D) (l : List α) (i : Int) (h : 0 ≤ i) (h2 : i < l.length) : ∃ x, x ∈ l ∧ atI (l.map f) i = some (f x) := by
  have h3 : i.toNat < l.length := by omega
  refine ⟨l[i.toNat], List.getElem_mem h3, ?_⟩
  rw [atI_of h (by rw [List.length_map]; exact h2), List.getElem?_map, List.getElem?_eq_getElem h3]
  rfl
/-- a for that goes through, whatever the turn -/
theorem for_all {b : D → S → Fl} (P : S → Prop) : ∀ (l : List D) (s : S), P s → (∀ d, d ∈ l → ∀ s, P s → ∃ s', (b d s = .nx s' ∨ b d s = .ct s') ∧ P s') → ∃ s', forTurns b l s = .nx s' ∧ P s'
  | [], s, h, _ => ⟨s, rfl, h⟩
  | d :: ds, s, h, st => by
    obtain ⟨s1, e1, p1⟩ := st d (List.mem_cons_self ..) s h
    obtain ⟨s2, e2, p2⟩ := for_all P ds s1 p1 fun d' m => st d' (List.mem_cons_of_mem _ m)
    refine ⟨s2, ?_, p2⟩
    unfold forTurns
    rcases e1 with e1 | e1 <;> rw [e1] <;> exact e2
/-! defs as values, exceptions -/
section
variable (G : Prog) (cal : Nat → List D → Sto → CR)
def calv1 (es : CL) (x : Option Slot) (s : S) : Oc R := match x with
  | some (.va (.fn n)) => if (G.fns[n]?).isSome = true then (evL G cal es s).bind (kCall cal n) else .bad
  | _ => .bad
def isx1 (n : Nat) (x : Option Slot) (s : S) : Oc R := match x with
  | some (.xo c _) => if (G.cls[c]?).isSome = true then .ok (.va (.bl (G.sub c n))) s else .bad
  | _ => .bad
def isxb1 (x : Option Slot) (s : S) : Oc R := match x with
  | some (.xo c _) => if (G.cls[c]?).isSome = true then .ok (.va (.bl true)) s else .bad
  | _ => .bad
def isxt1 (l : List (Nat × Str × Pos)) (x : Option Slot) (s : S) : Oc R := match x with
  | some (.xo c _) => if (G.cls[c]?).isSome = true then .ok (.va (.bl (l.any fun t => G.sub c t.1))) s else .bad
  | _ => .bad
def hcal1 (n : Nat) (x : Option Slot) (s : S) : Oc R := match x with
  | some (.xo c fs) => if (G.fns[n]?).isNone = true then hotR (cal n [.exo c fs] s.st) s else .bad
  | _ => .bad
def kLme (b : Bool) (a : C) (x : R) (s : S) : Oc R := if lsW (view s x) = true then (ev G cal a s).bind fun y s2 => opt (lmeV b (view s2 x) (view s2 y)) s2 else .bad
def rev1 (i : Nat) (x : Option Slot) (s : S) : Fl := match x with
  | some (.ol l) => .nx (setE s i (.ol l.reverse))
  | _ => .bad
def tryF (hs : CH) (f : Fl) : Fl := match f with
  | .ex c fs s1 => exh G cal hs c fs s1
  | f => f
def rvt1 (u : Option Vw) (s : S) : Oc R := match u with
  | some (.at (.tup l)) => .ok (.va (.tup l.reverse)) s
  | some (.at (.str z)) => if z.length ≤ sizeLine then .ok (.va (.str (revS z))) s else .bad
  | _ => .bad
def kRvt (x : R) (s : S) : Oc R := rvt1 (view s x) s
@[simp] theorem ev_rvt (a k p1 p2 p3 p s) : ev G cal (.rvt a k p1 p2 p3 p) s = (ev G cal a s).bind kRvt := rfl
@[simp] theorem kRvt_s (x s) : kRvt x s = rvt1 (view s x) s := rfl
@[simp] theorem rvt1_t (z s) : rvt1 (some (.at (.str z))) s = if z.length ≤ sizeLine then .ok (.va (.str (revS z))) s else .bad := rfl
@[simp] theorem rvt1_s (l s) : rvt1 (some (.at (.tup l))) s = .ok (.va (.tup l.reverse)) s := rfl
@[simp] theorem ev_fnv (n x p s) : ev G cal (.fnv n x p) s = .ok (.va (.fn n)) s := rfl
@[simp] theorem ev_calv (i x px es p s) : ev G cal (.calv i x px es p) s = calv1 G cal es s.env[i]? s := rfl
@[simp] theorem calv1_s (es n s) : calv1 G cal es (some (.va (.fn n))) s = if (G.fns[n]?).isSome = true then (evL G cal es s).bind (kCall cal n) else .bad := rfl
@[simp] theorem ev_isx (i x px pf n y py p s) : ev G cal (.isx i x px pf n y py p) s = isx1 G n s.env[i]? s := rfl
@[simp] theorem isx1_s (n c fs s) : isx1 G n (some (.xo c fs)) s = if (G.cls[c]?).isSome = true then .ok (.va (.bl (G.sub c n))) s else .bad := rfl
@[simp] theorem ev_isxb (i x px pf y py p s) : ev G cal (.isxb i x px pf y py p) s = isxb1 G s.env[i]? s := rfl
@[simp] theorem isxb1_s (c fs s) : isxb1 G (some (.xo c fs)) s = if (G.cls[c]?).isSome = true then .ok (.va (.bl true)) s else .bad := rfl
@[simp] theorem ev_isxt (i x px pf l k pt p s) : ev G cal (.isxt i x px pf l k pt p) s = isxt1 G l s.env[i]? s := rfl
@[simp] theorem isxt1_s (l c fs s) : isxt1 G l (some (.xo c fs)) s = if (G.cls[c]?).isSome = true then .ok (.va (.bl (l.any fun t => G.sub c t.1))) s else .bad := rfl
@[simp] theorem ev_hcal (n f pf i x px p s) : ev G cal (.hcal n f pf i x px p) s = hcal1 G cal n s.env[i]? s := by
  rfl
@[simp] theorem hcal1_s (n c fs s) : hcal1 G cal n (some (.xo c fs)) s = if (G.fns[n]?).isNone = true then hotR (cal n [.exo c fs] s.st) s else .bad := rfl
@[simp] theorem hotR_s (r st s) : hotR (.ok r st) s = .ok r ⟨s.env, st⟩ := rfl
@[simp] theorem ev_lme (b o a pa p s) : ev G cal (.lme b o a pa p) s = (ev G cal o s).bind (kLme G cal b a) := rfl
@[simp] theorem kLme_s (b a x s) : kLme G cal b a x s = if lsW (view s x) = true then (ev G cal a s).bind (fun y s2 => opt (lmeV b (view s2 x) (view s2 y)) s2) else .bad := rfl
@[simp] theorem exs_rev (i x px pa pc p s) : exs G cal (.rev i x px pa pc p) s = rev1 i s.env[i]? s := rfl
@[simp] theorem rev1_s (i l s) : rev1 i (some (.ol l)) s = .nx (setE s i (.ol l.reverse)) := rfl
@[simp] theorem exs_raise (n x px m j pm pc p s) : exs G cal (.raise_ n x px m j pm pc p) s = .ex n [] s := rfl
@[simp] theorem exs_try (b hs p s) : exs G cal (.try_ b hs p) s = tryF G cal hs (exb G cal b s) := by
  show (match exb G cal b s with | .ex c fs s1 => _ | f => f) = _
  cases exb G cal b s <;> rfl
@[simp] theorem tryF_nx (hs s) : tryF G cal hs (.nx s) = .nx s := rfl
@[simp] theorem tryF_rt (hs r s) : tryF G cal hs (.rt r s) = .rt r s := rfl
@[simp] theorem tryF_bk (hs s) : tryF G cal hs (.bk s) = .bk s := rfl
@[simp] theorem tryF_ct (hs s) : tryF G cal hs (.ct s) = .ct s := rfl
@[simp] theorem tryF_bad (hs) : tryF G cal hs .bad = .bad := rfl
@[simp] theorem tryF_ex (hs c fs s) : tryF G cal hs (.ex c fs s) = exh G cal hs c fs s := rfl
@[simp] theorem tryF_if {p : Prop} [Decidable p] (hs) (f g : Fl) : tryF G cal hs (if p then f else g) = if p then tryF G cal hs f else tryF G cal hs g := apply_ite _ _ _ _
@[simp] theorem exh_nil (c fs s) : exh G cal .nil c fs s = .ex c fs s := rfl
@[simp] theorem exh_cons (n x px c1 su p r c fs s) : exh G cal (.cons n x px c1 su p r) c fs s = if (G.cls[c]?).isSome = true then (if G.sub c n = true then aftS (seqF G cal su (exs G cal c1 s)) else exh G cal r c fs s) else .bad := by
  show (if (G.cls[c]?).isSome = true then (if G.sub c n = true then aftS (match exs G cal c1 s with | .nx s1 => _ | f => f) else _) else _) = _
  unfold seqF
  rfl
@[simp] theorem exh_as (n x px i y c1 su p r c fs s) : exh G cal (.as_ n x px i y c1 su p r) c fs s = if (G.cls[c]?).isSome = true then (if G.sub c n = true then aftA i (seqF G cal su (exs G cal c1 (setE s i (.xo c fs)))) else exh G cal r c fs s) else .bad := by
  show (if (G.cls[c]?).isSome = true then (if G.sub c n = true then aftA i (match exs G cal c1 _ with | .nx s1 => _ | f => f) else _) else _) = _
  unfold seqF
  rfl
end
@[simp] theorem aftS_nx (s) : aftS (.nx s) = if noXo s.env = true then .nx s else .bad := rfl
@[simp] theorem aftA_nx (i s) : aftA i (.nx s) = if noXo (s.env.set i .no) = true then .nx (setE s i .no) else .bad := rfl
@[simp] theorem noXo_nil : noXo [] = true := rfl
@[simp] theorem noXo_no (l) : noXo (.no :: l) = noXo l := rfl
@[simp] theorem noXo_va (d l) : noXo (.va d :: l) = noXo l := rfl
@[simp] theorem noXo_ol (d l) : noXo (.ol d :: l) = noXo l := rfl
@[simp] theorem noXo_od (t d l) : noXo (.od t d :: l) = noXo l := rfl
@[simp] theorem call2_ex (c fs st env) : call2 (.ex c fs st) env = .ex c fs ⟨env, st⟩ := rfl
end BB

namespace BB
open PySem PySem.Spec PyProof.Rows L2
/-! texts as lists of signs -/
def tx (l : List Nat) : Str := ⟨l.toArray⟩
@[simp] theorem cs_tx (l : List Nat) : cs (tx l) = l := rfl
@[simp] theorem tx_cs (x : Str) : tx (cs x) = x := by cases x; rfl
theorem cs_inj {x y : Str} (h : cs x = cs y) : x = y := by rw [← tx_cs x, h, tx_cs]
@[simp] theorem cs_app (x y : Str) : cs (x ++ y) = cs x ++ cs y := Array.toList_append
theorem len_cs (x : Str) : x.length = (cs x).length := rfl
theorem len_app (x y : Str) : (x ++ y).length = x.length + y.length := by rw [len_cs, cs_app, List.length_append]; rfl
def splitL (c : Nat) : List Nat → List (List Nat)
  | [] => [[]]
  | x :: xs => if x = c then [] :: splitL c xs else match splitL c xs with
    | h :: t => (x :: h) :: t
    | [] => [[x]]
theorem splitL_ne (c : Nat) : ∀ l, ∃ h t, splitL c l = h :: t
  | [] => ⟨_, _, rfl⟩
  | x :: xs => by
    unfold splitL
    by_cases e : x = c
    · rw [if_pos e]; exact ⟨_, _, rfl⟩
    · rw [if_neg e]
      obtain ⟨h, t, q⟩ := splitL_ne c xs
      rw [q]
      exact ⟨_, _, rfl⟩
theorem splitL_free (c : Nat) : ∀ l, c ∉ l → splitL c l = [l]
  | [], _ => rfl
  | x :: xs, n => by
    unfold splitL
    rw [if_neg (fun e => n (by rw [e]; exact List.mem_cons_self ..)), splitL_free c xs fun m => n (List.mem_cons_of_mem _ m)]
theorem splitL_app (c : Nat) (r : List Nat) : ∀ l, c ∉ l → splitL c (l ++ c :: r) = l :: splitL c r
  | [], _ => by
    show splitL c (c :: r) = _
    rw [splitL, if_pos rfl]
  | x :: xs, n => by
    show splitL c (x :: (xs ++ c :: r)) = _
    rw [splitL, if_neg (fun e => n (by rw [e]; exact List.mem_cons_self ..)), splitL_app c r xs fun m => n (List.mem_cons_of_mem _ m)]
theorem splitL_len (c : Nat) : ∀ l, (splitL c l).length = l.count c + 1
  | [] => rfl
  | x :: xs => by
    rw [splitL]
    by_cases e : x = c
    · rw [if_pos e, e, List.count_cons_self, List.length_cons, splitL_len c xs]
    · rw [if_neg e, List.count_cons_of_ne (by simpa using e)]
      obtain ⟨h, t, q⟩ := splitL_ne c xs
      have := splitL_len c xs
      rw [q] at this ⊢
      simpa using this
theorem split_uniq (c : Nat) : ∀ (ps : List Str), ps ≠ [] → (∀ p ∈ ps, c ∉ cs p) → splitL c (cs (Str.join ⟨#[c]⟩ ps)) = ps.map cs
  | [], h, _ => absurd rfl h
  | [p], _, f => splitL_free c _ (f p (List.mem_cons_self ..))
  | p :: q :: r, _, f => by
    show splitL c (cs (p ++ ⟨#[c]⟩ ++ Str.join ⟨#[c]⟩ (q :: r))) = _
    rw [cs_app, cs_app]
    show splitL c (cs p ++ [c] ++ _) = _
    rw [List.append_assoc]
    show splitL c (cs p ++ c :: cs (Str.join ⟨#[c]⟩ (q :: r))) = _
    rw [splitL_app c _ _ (f p (List.mem_cons_self ..)), split_uniq c (q :: r) (by simp) fun p m => f p (List.mem_cons_of_mem _ m)]
    rfl
theorem split_cs (x : Str) (c : Nat) : (Txt.split x ⟨#[c]⟩).map cs = splitL c (cs x) := by
  have h := split_uniq c (Txt.split x ⟨#[c]⟩) (fun e => by have := split_pos x ⟨#[c]⟩; rw [e] at this; cases this) (StrLaws.split_free x c)
  rw [StrLaws.join_split] at h
  exact h.symm
theorem split_eq (x : Str) (c : Nat) : Txt.split x ⟨#[c]⟩ = (splitL c (cs x)).map tx := by
  rw [← split_cs, List.map_map]
  have : (tx ∘ cs) = id := funext fun x => tx_cs x
  rw [this, List.map_id]
theorem split_len (x : Str) (c : Nat) : (Txt.split x ⟨#[c]⟩).length = (cs x).count c + 1 := by
  rw [split_eq, List.length_map, splitL_len]
theorem count_cs (x : Str) (c : Nat) : Txt.count x ⟨#[c]⟩ = ((cs x).count c : Nat) := by
  have h := split_len x c
  unfold Txt.split at h
  unfold Txt.count
  by_cases h1 : c ∈ cs x
  · have h3 : (Txt.split x ⟨#[c]⟩).length ≠ 1 := by
      rw [split_len]
      have := List.count_pos_iff.mpr h1
      omega
    split at h
    · rename_i h2
      unfold Txt.split at h3
      rw [if_pos h2] at h3
      exact absurd rfl h3
    · split at h
      · rename_i h2 h4
        unfold Txt.split at h3
        rw [if_neg h2, if_pos h4] at h3
        exact absurd rfl h3
      · rw [len_partsBetween] at h
        congr 1
        omega
  · rw [List.count_eq_zero_of_not_mem h1]
    have e : Builtin.Str.occurrences x ⟨#[c]⟩ 0 x.length (x.length + 1) = [] := by
      cases q : Builtin.Str.occurrences x ⟨#[c]⟩ 0 x.length (x.length + 1) with
      | nil => rfl
      | cons i r =>
        have := StrLaws.occ_spec x ⟨#[c]⟩ 0 x.length (x.length + 1) i (by rw [q]; exact List.mem_cons_self ..)
        exfalso
        apply h1
        obtain ⟨h5, h6⟩ := this
        have h7 := StrLaws.found_one x c
        have h8 := (StrLaws.found_iff x ⟨#[c]⟩).mpr ⟨i, h5, h6⟩
        rw [h7] at h8
        exact of_decide_eq_true h8
    rw [e]; rfl
theorem splitL_le (c : Nat) : ∀ (l p : List Nat), p ∈ splitL c l → p.length ≤ l.length
  | [], p, h => by cases List.mem_singleton.mp h; exact Nat.le_refl _
  | x :: xs, p, h => by
    rw [splitL] at h
    rw [List.length_cons]
    by_cases e : x = c
    · rw [if_pos e] at h
      rcases List.mem_cons.mp h with rfl | h
      · exact Nat.zero_le _
      · have := splitL_le c xs p h; omega
    · rw [if_neg e] at h
      obtain ⟨a, t, q⟩ := splitL_ne c xs
      have ih := splitL_le c xs
      rw [q] at h ih
      rcases List.mem_cons.mp h with rfl | h
      · have := ih a (List.mem_cons_self ..); rw [List.length_cons]; omega
      · have := ih p (List.mem_cons_of_mem _ h); omega
theorem len_tx (l : List Nat) : (tx l).length = l.length := rfl
theorem split_two {x : Str} {c : Nat} (h : (cs x).count c = 1) : ∃ a b, splitL c (cs x) = [a, b] ∧ Txt.split x ⟨#[c]⟩ = [tx a, tx b] ∧ a.length ≤ x.length ∧ b.length ≤ x.length := by
  have h2 := splitL_len c (cs x)
  rw [h] at h2
  match q : splitL c (cs x), h2 with
  | [a, b], _ =>
    exact ⟨a, b, rfl, by rw [split_eq, q]; rfl, splitL_le c (cs x) a (by rw [q]; simp), splitL_le c (cs x) b (by rw [q]; simp)⟩
end BB

namespace BB
open PySem PySem.Spec PyProof.Rows L2
section
variable (G : Prog) (cal : Nat → List D → Sto → CR)
/-! comprehensions -/
def lcE1 (own : List (Str × Nat)) (r : Option D) (s : S) : Oc (Option D) := match r with
  | some y => .ok (some y) (wipeE s (own.map (·.2)))
  | none => .bad
def kLcE (own : List (Str × Nat)) (r : R) (s : S) : Oc (Option D) := lcE1 own (keepR r) s
def kLcT (elt : C) (own : List (Str × Nat)) (t : Bool) (s : S) : Oc (Option D) := if t = true then (ev G cal elt s).bind (kLcE own) else .ok none (wipeE s (own.map (·.2)))
def lcO (elt : C) (ifs : CL) (own : List (Str × Nat)) (o : Option S) : Oc (Option D) := match o with
  | some s => (evIfs G cal ifs s).bind (kLcT G cal elt own)
  | none => .bad
@[simp] theorem kLcE_s (own r s) : kLcE own r s = lcE1 own (keepR r) s := rfl
@[simp] theorem lcE1_s (own y s) : lcE1 own (some y) s = .ok (some y) (wipeE s (own.map (·.2))) := rfl
@[simp] theorem kLcT_s (elt own t s) : kLcT G cal elt own t s = if t = true then (ev G cal elt s).bind (kLcE own) else .ok none (wipeE s (own.map (·.2))) := rfl
@[simp] theorem lcO_s (elt ifs own s) : lcO G cal elt ifs own (some s) = (evIfs G cal ifs s).bind (kLcT G cal elt own) := rfl
@[simp] theorem wipeE_0 (s) : wipeE s [] = s := rfl
@[simp] theorem wipeE_1 (s i r) : wipeE s (i :: r) = setE (wipeE s r) i .no := rfl
def lcD (is : List Nat) (elt : C) (ifs : CL) (own : List (Str × Nat)) (d : D) (s : S) : Oc (Option D) := match d with
  | .tup ds => lcO G cal elt ifs own (bindI is ds s)
  | _ => .bad
def lcN (i : Nat) (elt : C) (ifs : CL) (own : List (Str × Nat)) (d : D) (s : S) : Oc (Option D) := (evIfs G cal ifs (setE s i (.va d))).bind (kLcT G cal elt own)
@[simp] theorem lcN_s (i elt ifs own d s) : lcN G cal i elt ifs own d s = (evIfs G cal ifs (setE s i (.va d))).bind (kLcT G cal elt own) := rfl
@[simp] theorem lcD_s (is elt ifs own ds s) : lcD G cal is elt ifs own (.tup ds) s = lcO G cal elt ifs own (bindI is ds s) := rfl
theorem lcB_tail (elt own) : (fun t s2 => if t = true then (ev G cal elt s2).bind fun r s3 => (match keepR r with
      | some y => .ok (some y) (wipeE s3 (own.map (·.2)))
      | none => .bad) else .ok none (wipeE s2 (own.map (·.2)))) = kLcT G cal elt own := by
  funext t s2
  unfold kLcT
  by_cases h : t = true
  · rw [if_pos h, if_pos h]
    congr 1
  · rw [if_neg h, if_neg h]
@[simp] theorem kLc_nm (elt i x p ifs own l s) : kLc G cal elt (.nm i x p) ifs own l s = (lcTurns (lcN G cal i elt ifs own) l [] (wipeE s (own.map (·.2)))).bind kFl := by
  rw [kLc_s]
  congr 2
@[simp] theorem kLc_tp (elt t k p ifs own l s) : kLc G cal elt (.tp t k p) ifs own l s = (lcTurns (lcD G cal (t.map (·.1)) elt ifs own) l [] (wipeE s (own.map (·.2)))).bind kFl := by
  rw [kLc_s]
  congr 2
  funext d s
  cases d with
  | tup ds =>
    show (match bindN t ds s with | none => Oc.bad | some s1 => (evIfs G cal ifs s1).bind (kLcT G cal elt own)) = lcO G cal elt ifs own (bindI (t.map (·.1)) ds s)
    rw [bindN_I]
    cases bindI (t.map (·.1)) ds s <;> rfl
  | _ => rfl
end
theorem lc_acc {α : Type} {b : D → S → Oc (Option D)} {s : S} (g : α → D) (f : α → D) : ∀ (m : List α) (acc : List D), (∀ a, a ∈ m → b (g a) s = .ok (some (f a)) s) → acc.length + m.length ≤ 16777216 → lcTurns b (m.map g) acc s = .ok (acc ++ m.map f) s
  | [], acc, _, _ => by rw [List.map_nil, List.map_nil, List.append_nil]; rfl
  | a :: m, acc, h, hl => by
    rw [List.length_cons] at hl
    show (match b (g a) s with
      | .ok none s1 => _
      | .ok (some y) s1 => if acc.length < sizeLine then lcTurns b (m.map g) (acc ++ [y]) s1 else .bad
      | _ => _) = _
    rw [h a (List.mem_cons_self ..)]
    dsimp only
    rw [if_pos (by rw [sizeLine_eq]; omega), lc_acc g f m (acc ++ [f a]) (fun a q => h a (List.mem_cons_of_mem _ q)) (by rw [List.length_append]; show acc.length + 1 + m.length ≤ _; omega)]
    simp
/-- a comprehension without ifs -/
theorem lc_map {α : Type} {b : D → S → Oc (Option D)} {s : S} {g : α → D} (f : α → D) {m : List α} (h : ∀ a, a ∈ m → b (g a) s = .ok (some (f a)) s) (hl : m.length ≤ 16777216) : lcTurns b (m.map g) [] s = .ok (m.map f) s := by
  rw [lc_acc g f m [] h (by simpa using hl)]; rfl
theorem bi_all_map {α : Type} (f : α → Bool) (l : List α) : biV .all [.ls (l.map fun a => .bl (f a))] = some (.va (.bl (l.all f))) := by
  have e : ∀ l : List α, blsD (l.map fun a => D.bl (f a)) = some (l.map f) := fun l => by
    induction l with
    | nil => rfl
    | cons a l ih => rw [List.map_cons, blsD, ih]; rfl
  show (blsD _).map _ = _
  rw [e]
  show some (R.va (.bl ((l.map f).all id))) = _
  rw [List.all_map]
  rfl
theorem bi_any_map {α : Type} (f : α → Bool) (l : List α) : biV .any [.ls (l.map fun a => .bl (f a))] = some (.va (.bl (l.any f))) := by
  have e : ∀ l : List α, blsD (l.map fun a => D.bl (f a)) = some (l.map f) := fun l => by
    induction l with
    | nil => rfl
    | cons a l ih => rw [List.map_cons, blsD, ih]; rfl
  show (blsD _).map _ = _
  rw [e]
  show some (R.va (.bl ((l.map f).any id))) = _
  rw [List.any_map]
  rfl
/-! types -/
def isi1 (t : Option String) (u : String) : Option R := match t with
  | some t => if u ∈ ["str", "int", "bool", "tuple", "list", "dict"] then some (.va (.bl (isiW t u))) else none
  | none => none
@[simp] theorem bi_isi (v : Vw) (u : String) : biV .isi [v, .at (.ty u)] = isi1 (tyW v) u := by
  show (if u ∈ _ then (tyW v).map _ else none) = _
  unfold isi1
  cases tyW v with
  | none => split <;> rfl
  | some t => rfl
@[simp] theorem isi1_s (t u) : isi1 (some t) u = if u ∈ ["str", "int", "bool", "tuple", "list", "dict"] then some (.va (.bl (isiW t u))) else none := rfl
@[simp] theorem tyW_non : tyW (.at .non) = some "NoneType" := rfl
@[simp] theorem tyW_bl (b) : tyW (.at (.bl b)) = some "bool" := rfl
@[simp] theorem tyW_int (b) : tyW (.at (.int b)) = some "int" := rfl
@[simp] theorem tyW_str (b) : tyW (.at (.str b)) = some "str" := rfl
@[simp] theorem tyW_tup (b) : tyW (.at (.tup b)) = some "tuple" := rfl
@[simp] theorem tyW_ls (b) : tyW (.ls b) = some "list" := rfl
@[simp] theorem tyW_dc (t b) : tyW (.dc t b) = some "dict" := rfl
@[simp] theorem isiW_s (t u : String) : isiW t u = (decide (t = u) || (decide (t = "bool") && decide (u = "int"))) := rfl
/-! texts -/
@[simp] theorem mt_count (a b) : mtV .count (.at (.str a)) [.at (.str b)] = some (.va (.int (Txt.count a b))) := rfl
@[simp] theorem mt_split (a b : Str) : mtV .split (.at (.str a)) [.at (.str b)] = if (b.length == 0) = false ∧ a.length + 2 ≤ 16777216 then some (.fl ((Txt.split a b).map .str)) else none := rfl
@[simp] theorem in_sign (c : Nat) (z : Str) : inW (.at (.str ⟨#[c]⟩)) (.at (.str z)) = some (decide (c ∈ cs z)) := rfl
theorem at_lit : Str.ofString "@" = (⟨#[64]⟩ : Str) := by decide +kernel
theorem sp_lit : Str.ofString " " = (⟨#[32]⟩ : Str) := by decide +kernel
@[simp] theorem is_bb (a b : Bool) : isW (.at (.bl a)) (.at (.bl b)) = some (decide (a = b)) := rfl
@[simp] theorem is_nn : isW (.at .non) (.at .non) = some true := rfl
@[simp] theorem is_in (i : Int) : isW (.at (.int i)) (.at .non) = some false := rfl
@[simp] theorem is_sn (i : Str) : isW (.at (.str i)) (.at .non) = some false := rfl
@[simp] theorem is_bn (i : Bool) : isW (.at (.bl i)) (.at .non) = some false := rfl
@[simp] theorem is_tn (i) : isW (.at (.tup i)) (.at .non) = some false := rfl
@[simp] theorem is_ln (i) : isW (.ls i) (.at .non) = some false := rfl
@[simp] theorem is_dn (t i) : isW (.dc t i) (.at .non) = some false := rfl
/-! people -/
def LET : List Nat := [97, 98, 99, 100, 101, 102, 103, 104, 105, 106, 107, 108, 109, 110, 111, 112, 113, 114, 115, 116, 117, 118, 119, 120, 121, 122]
def SIG : List Nat := LET ++ [48, 49, 50, 51, 52, 53, 54, 55, 56, 57, 45]
theorem let_lit : cs (Str.ofString "abcdefghijklmnopqrstuvwxyz") = LET := by decide +kernel
theorem sig_lit : cs (Str.ofString "abcdefghijklmnopqrstuvwxyz" ++ Str.ofString "0123456789-") = SIG := by decide +kernel
def isOf (x : Str) (m : Int) (z : Str) : Bool := decide (1 ≤ (x.length : Int)) && decide ((x.length : Int) ≤ m) && (cs x).all fun c => decide (c ∈ cs z)
def nameL (l : List Nat) : Bool := decide (1 ≤ l.length) && decide (l.length ≤ 8) && l.all fun c => decide (c ∈ SIG)
def houseL (l : List Nat) : Bool := decide (1 ≤ l.length) && decide (l.length ≤ 6) && l.all fun c => decide (c ∈ LET)
def personL (l : List Nat) : Bool := match splitL 64 l with
  | [a, b] => nameL a && houseL b
  | _ => false
theorem isOf_house (x : Str) : isOf x 6 (Str.ofString "abcdefghijklmnopqrstuvwxyz") = houseL (cs x) := by
  unfold isOf houseL
  rw [let_lit, len_cs]
  congr 1
  congr 1
  · exact decide_eq_decide.mpr (by omega)
  · exact decide_eq_decide.mpr (by omega)
theorem isOf_name (x : Str) : isOf x 8 (Str.ofString "abcdefghijklmnopqrstuvwxyz" ++ Str.ofString "0123456789-") = nameL (cs x) := by
  unfold isOf nameL
  rw [sig_lit, len_cs]
  congr 1
  congr 1
  · exact decide_eq_decide.mpr (by omega)
  · exact decide_eq_decide.mpr (by omega)
theorem personL_no {l : List Nat} (h : ¬ l.count 64 = 1) : personL l = false := by
  unfold personL
  have h2 := splitL_len 64 l
  split
  · rename_i a b q
    rw [q] at h2
    simp at h2
    omega
  · rfl
/-! turns of a comprehension, one by one -/
def lcNext (b : D → S → Oc (Option D)) (ds acc : List D) (o : Oc (Option D)) : Oc (List D) := match o with
  | .ok none s1 => lcTurns b ds acc s1
  | .ok (some y) s1 => if acc.length < sizeLine then lcTurns b ds (acc ++ [y]) s1 else .bad
  | _ => .bad
@[simp] theorem lcTurns_nil (b acc s) : lcTurns b [] acc s = .ok acc s := rfl
theorem lcTurns_cons (b d ds acc s) : lcTurns b (d :: ds) acc s = lcNext b ds acc (b d s) := rfl
@[simp] theorem lcNext_n (b ds acc s) : lcNext b ds acc (.ok none s) = lcTurns b ds acc s := rfl
@[simp] theorem lcNext_s (b ds acc y s) : lcNext b ds acc (.ok (some y) s) = if acc.length < 16777216 then lcTurns b ds (acc ++ [y]) s else .bad := rfl
@[simp] theorem blsD_n : blsD [] = some [] := rfl
@[simp] theorem blsD_c (b ds) : blsD (.bl b :: ds) = (blsD ds).map (b :: ·) := by
  rw [blsD]; cases blsD ds <;> rfl
@[simp] theorem blsD_map {α : Type} (f : α → Bool) : ∀ l : List α, blsD (l.map fun a => D.bl (f a)) = some (l.map f)
  | [] => rfl
  | a :: l => by rw [List.map_cons, blsD, blsD_map f l]; rfl
@[simp] theorem bi_any (l) : biV .any [.ls l] = (blsD l).map fun is => .va (.bl (is.any id)) := rfl
@[simp] theorem bi_all (l) : biV .all [.ls l] = (blsD l).map fun is => .va (.bl (is.all id)) := rfl
@[simp] theorem bi_sum (l) : biV .sum [.ls l] = (intsD l).map fun is => .va (.int is.sum) := rfl
@[simp] theorem ix_str (z : Str) (i : Int) : ixV (.at (.str z)) (.at (.int i)) = if z.length ≤ 16777216 then (atI (cs z) i).map fun c => .str ⟨#[c]⟩ else none := rfl
@[simp] theorem atI_m1 {α : Type} (l : List α) : atI l (-1) = l.getLast? := by
  unfold atI ixN
  rw [if_neg (by omega)]
  cases l with
  | nil => rfl
  | cons a r =>
    rw [if_pos (by rw [List.length_cons]; omega), List.getLast?_eq_getElem?]
    show (a :: r)[((-1 : Int) + ((a :: r).length : Int)).toNat]? = _
    congr 1
    rw [List.length_cons]; omega
theorem atI_mem {α : Type} (l : List α) (i : Int) (h : 0 ≤ i) (h2 : i < l.length) : ∃ x, x ∈ l ∧ atI l i = some x := by
  have h3 : i.toNat < l.length := by omega
  exact ⟨l[i.toNat], List.getElem_mem h3, by rw [atI_of h h2, List.getElem?_eq_getElem h3]⟩
@[simp] theorem sign_eq (a b : Nat) : ((⟨#[a]⟩ : Str) = ⟨#[b]⟩) ↔ a = b := ⟨fun h => by injection h with h; simpa using h, fun h => by rw [h]⟩
theorem log_lt {i : Int} {n : Nat} (h : i.natAbs < 2 ^ n) (hn : 0 < n) : i.natAbs.log2 < n := by
  by_cases e : i.natAbs = 0
  · rw [e]; simpa using hn
  · exact (Nat.log2_lt e).mpr h
end BB

namespace BB
open PySem PySem.Spec PyProof.Rows L2
/-! texts joined -/
theorem rngD_map (n : Nat) : ∀ lo : Nat, rngD (lo : Int) n = (List.range' lo n).map fun i : Nat => D.int (i : Int) := by
  induction n with
  | zero => intro lo; rfl
  | succ n ih =>
    intro lo
    show D.int lo :: rngD ((lo : Int) + 1) n = _
    have := ih (lo + 1)
    rw [show ((lo + 1 : Nat) : Int) = (lo : Int) + 1 by omega] at this
    rw [this, List.range'_succ, List.map_cons]
theorem rngD_range (n : Nat) : rngD 0 n = (List.range n).map fun i : Nat => D.int (i : Int) := by
  have := rngD_map n 0
  rw [show ((0 : Nat) : Int) = 0 from rfl] at this
  rw [this, List.range_eq_range']
@[simp] theorem strsD_map {α : Type} (f : α → Str) : ∀ l : List α, strsD (l.map fun a => D.str (f a)) = some (l.map f)
  | [] => rfl
  | a :: l => by rw [List.map_cons, strsD, strsD_map f l]; rfl
@[simp] theorem strsD_n : strsD [] = some [] := rfl
@[simp] theorem strsD_c (x ds) : strsD (.str x :: ds) = (strsD ds).map (x :: ·) := by
  rw [strsD]; cases strsD ds <;> rfl
def join1 (a : Str) (ys : Option (List Str)) : Option R := match ys with
  | some ys => if (ys.map (·.length)).sum + ys.length * a.length ≤ 16777216 then some (.va (.str (Txt.join a ys))) else none
  | none => none
@[simp] theorem mt_join (a l) : mtV .join (.at (.str a)) [.ls l] = join1 a (strsD l) := by
  show (match strsD l with | some ys => _ | none => _) = _
  cases strsD l <;> rfl
theorem join1_s {a : Str} {ys : List Str} (h : (ys.map (·.length)).sum + ys.length * a.length ≤ 16777216) : join1 a (some ys) = some (.va (.str (Txt.join a ys))) := if_pos h
theorem join_eq (a : Str) (ys : List Str) : Txt.join a ys = Str.join a ys := StrLaws.glued_eq_join a ys
theorem cs_join (a : Str) : ∀ ys : List Str, cs (Txt.join a ys) = ((ys.map cs).intersperse (cs a)).flatten
  | [] => by rw [join_eq]; rfl
  | [x] => by rw [join_eq]; show cs x = _; simp
  | x :: y :: r => by
    have ih := cs_join a (y :: r)
    rw [join_eq] at ih ⊢
    show cs (x ++ a ++ Str.join a (y :: r)) = _
    rw [cs_app, cs_app, ih]
    simp [List.intersperse]
theorem cs_join0 (ys : List Str) : cs (Txt.join (Str.ofString "") ys) = (ys.map cs).flatten := by
  have e : Str.ofString "" = (⟨#[]⟩ : Str) := by decide +kernel
  rw [e]
  induction ys with
  | nil => rw [join_eq]; rfl
  | cons x r ih =>
    cases r with
    | nil => rw [join_eq]; show cs x = _; simp
    | cons y r =>
      rw [join_eq] at ih ⊢
      show cs (x ++ ⟨#[]⟩ ++ Str.join ⟨#[]⟩ (y :: r)) = _
      rw [cs_app, cs_app, ih]
      show cs x ++ [] ++ _ = _
      simp
/-- a text joined by a sign that stands in none of its words, split there -/
theorem split_join {c : Nat} {ys : List Str} (h : ys ≠ []) (f : ∀ y ∈ ys, c ∉ cs y) : Txt.split (Txt.join ⟨#[c]⟩ ys) ⟨#[c]⟩ = ys := by
  rw [split_eq, join_eq, split_uniq c ys h f, List.map_map]
  have : (tx ∘ cs) = id := funext fun x => tx_cs x
  rw [this, List.map_id]
/-! numbers -/
theorem cs_num (n : Nat) : cs (Str.ofString (n : Int).repr) = TL.numL n := TL.tl_num n
theorem num_free {n c : Nat} (h : c < 48 ∨ 57 < c) : c ∉ cs (Str.ofString (n : Int).repr) := by rw [cs_num]; exact TL.numL_free h
theorem numL_head : ∀ n : Nat, 0 < n → (TL.numL n)[0]? ≠ some 48
  | n, h => by
    by_cases h10 : n < 10
    · rw [TL.numL_lt h10]; simp; omega
    · have ih := numL_head (n / 10) (by omega)
      rw [TL.numL_step (by omega)]
      cases q : TL.numL (n / 10) with
      | nil => exact absurd q (TL.numL_ne _)
      | cons a l => rw [q] at ih; simpa using ih
theorem digits_lt : ∀ (l : List Nat) (a : Nat), NumText.AllDigits l → l.foldl (fun acc c => acc * 10 + (c - 48)) a < (a + 1) * 10 ^ l.length
  | [], a, _ => by simp
  | c :: l, a, h => by
    have ih := digits_lt l (a * 10 + (c - 48)) h.tail
    have hc := h.head
    rw [List.foldl_cons, List.length_cons, Nat.pow_succ]
    refine Nat.lt_of_lt_of_le ih ?_
    have : a * 10 + (c - 48) + 1 ≤ (a + 1) * 10 := by omega
    calc (a * 10 + (c - 48) + 1) * 10 ^ l.length ≤ ((a + 1) * 10) * 10 ^ l.length := Nat.mul_le_mul_right _ this
      _ = (a + 1) * (10 ^ l.length * 10) := by rw [Nat.mul_assoc, Nat.mul_comm 10]
theorem digitsVal_lt {l : List Nat} (h : NumText.AllDigits l) : NumText.digitsVal l < 10 ^ l.length := by
  have := digits_lt l 0 h
  rwa [Nat.zero_add, Nat.one_mul] at this
/-! one thing compared with itself -/
theorem eqW_refl {u : Vw} {p : PyData} (hs : u.scal = none) (h : u.toP = some p) (hp : SeqAt.shaped p = true) : eqW u u = some true := by
  unfold eqW
  rw [hs, h]
  dsimp only
  rw [if_pos ⟨hp, hp⟩, SeqAt.eqv_refl p (SeqAt.canLay_of_shaped hp)]
def int1 (x : Str) (n : Option Int) : Option R := match n with
  | some n => if x.length ≤ 640 then some (.va (.int n)) else none
  | none => none
@[simp] theorem bi_ints (x) : biV .int [.at (.str x)] = int1 x (PySem.intText? x) := by
  show (match PySem.intText? x with | some n => _ | none => _) = _
  cases PySem.intText? x <;> rfl
@[simp] theorem int1_s (x n) : int1 x (some n) = if x.length ≤ 640 then some (.va (.int n)) else none := rfl
@[simp] theorem bi_strn : biV .str [.at .non] = some (.va (.str "None")) := rfl
@[simp] theorem sl_str (z : Str) (lo hi) : slV (.at (.str z)) lo hi = if z.length ≤ 16777216 then some (.va (.str (cutS z lo hi))) else none := rfl
theorem cutS_cs (z : Str) (lo hi : Option Int) : cs (cutS z lo hi) = ((cs z).drop (HT.sIx z.length 0 lo)).take (HT.sIx z.length z.length hi - HT.sIx z.length 0 lo) := rfl
theorem cutS_to (z : Str) (n : Nat) : cs (cutS z none (some (n : Int))) = (cs z).take n := by
  rw [cutS_cs, HT.sIx_nat]
  show ((cs z).drop 0).take (min n z.length - 0) = _
  rw [List.drop_zero, Nat.sub_zero]
  have h : z.length = (cs z).length := rfl
  rcases Nat.le_total n z.length with q | q
  · rw [Nat.min_eq_left q]
  · rw [Nat.min_eq_right q, h, List.take_length, List.take_of_length_le (by omega)]
theorem cutS_from (z : Str) (n : Nat) : cs (cutS z (some (n : Int)) none) = (cs z).drop n := by
  rw [cutS_cs, HT.sIx_nat]
  show ((cs z).drop (min n z.length)).take (z.length - min n z.length) = _
  have h : z.length = (cs z).length := rfl
  rw [List.take_of_length_le (by rw [List.length_drop, ← h]; omega)]
  rcases Nat.le_total n z.length with q | q
  · rw [Nat.min_eq_left q]
  · rw [Nat.min_eq_right q, h, List.drop_length, List.drop_eq_nil_of_le (by omega)]
theorem intText_cs {x : Str} {l : List Nat} (e : cs x = l) (h : NumText.AllDigits l) (h1 : l ≠ []) (h2 : l.length ≤ 640) : PySem.intText? x = some ((NumText.digitsVal l : Nat) : Int) := by
  subst e
  exact PySem.intText_digits h h1 (by show (cs x).length ≤ 4300; omega)
theorem lc_id {b : D → S → Oc (Option D)} {s : S} (f : D → D) {m : List D} (h : ∀ a, a ∈ m → b a s = .ok (some (f a)) s) (hl : m.length ≤ 16777216) : lcTurns b m [] s = .ok (m.map f) s := by
  have := lc_map (g := id) f h hl
  rwa [List.map_id] at this
/-- what is written for a part -/
def partS : D → Str
  | .str x => x
  | .int n => Str.ofString n.repr
  | _ => Str.ofString "-"
def OkPart (d : D) : Prop := d = .non ∨ (∃ x : Str, d = .str x ∧ x.length ≤ 100 ∧ ∀ s ∈ cs x, s < 1114112) ∨ ∃ n : Nat, d = .int (n : Int) ∧ n < 10 ^ 30
theorem OkPart.len {d : D} (h : OkPart d) : (partS d).length ≤ 100 := by
  rcases h with rfl | ⟨x, rfl, h⟩ | ⟨n, rfl, h⟩
  · decide +kernel
  · exact h.1
  · show (cs _).length ≤ 100
    show (cs (Str.ofString (n : Int).repr)).length ≤ 100
    rw [cs_num]
    have := TL.numL_len (n := n) (k := 30) (by decide) h
    omega
theorem parts_sum : ∀ ds : List D, (∀ d ∈ ds, OkPart d) → ((ds.map partS).map (·.length)).sum ≤ 100 * ds.length
  | [], _ => Nat.zero_le _
  | d :: ds, h => by
    have h1 := parts_sum ds fun x m => h x (List.mem_cons_of_mem _ m)
    have h2 := (h d (List.mem_cons_self ..)).len
    rw [List.map_cons, List.map_cons, List.sum_cons, List.length_cons]
    omega
theorem parts_join (ds : List D) (h : ∀ d ∈ ds, OkPart d) (hl : ds.length ≤ 10000) : join1 (Str.ofString " ") (some (ds.map partS)) = some (.va (.str (Txt.join (Str.ofString " ") (ds.map partS)))) := by
  have h1 := parts_sum ds h
  have e : (Str.ofString " ").length = 1 := by decide +kernel
  exact join1_s (by rw [e, List.length_map]; omega)
theorem num_log {n : Nat} (h : n < 10 ^ 30) : n.log2 < 1920 := by
  have := Nat.lt_of_lt_of_le (log_lt (i := (n : Int)) (n := 100) (by omega) (by decide)) (show 100 ≤ 1920 by decide)
  rwa [Int.natAbs_natCast] at this
theorem join_free {a c : Nat} (h : c ≠ a) : ∀ ys : List Str, (∀ y ∈ ys, c ∉ cs y) → c ∉ cs (Txt.join ⟨#[a]⟩ ys)
  | [], _ => by rw [join_eq]; exact List.not_mem_nil
  | [x], f => by rw [join_eq]; exact f x (List.mem_cons_self ..)
  | x :: y :: r, f => by
    have ih := join_free h (y :: r) fun z m => f z (List.mem_cons_of_mem _ m)
    rw [join_eq] at ih ⊢
    show c ∉ cs (x ++ ⟨#[a]⟩ ++ Str.join ⟨#[a]⟩ (y :: r))
    rw [cs_app, cs_app]
    intro m
    rcases List.mem_append.mp m with m | m
    · rcases List.mem_append.mp m with m | m
      · exact f x (List.mem_cons_self ..) m
      · exact h (List.mem_singleton.mp m)
    · exact ih m
theorem join_len (a : Str) (ys : List Str) : (Txt.join a ys).length ≤ (ys.map (·.length)).sum + ys.length * a.length := by
  rw [join_eq]; exact StrLaws.join_length_le a ys
@[simp] theorem flats_strs : ∀ l : List Str, flats (l.map .str) = some (l.map V.str)
  | [] => rfl
  | x :: l => by rw [List.map_cons, flats_cons, flats_strs l]; rfl
theorem in_strs (x : Str) (l : List Str) : inW (.at (.str x)) (.ls (l.map .str)) = some (l.any fun y => decide (x = y)) := by
  rw [in_s_ls, flats_strs, flatD_s, in1_s, List.any_map]
  congr 2
  funext y
  exact eqV_ss y x
theorem nl_lit : Str.ofString "\n" = (⟨#[10]⟩ : Str) := by decide +kernel
end BB

namespace BB
open PySem PySem.Spec PyProof.Rows L2
theorem at_sign (p : Str) (c i : Nat) : StrLaws.At p ⟨#[c]⟩ p.length i ↔ (cs p)[i]? = some c := by
  have e : (p.cps.extract i (i + 1)).toList = ((cs p).drop i).take 1 := by
    rw [Array.toList_extract]
    show List.extract (cs p) i (i + 1) = _
    rw [List.extract_eq_take_drop]
    congr 1; omega
  unfold StrLaws.At Builtin.Str.subAt
  show (i + 1 ≤ p.length ∧ (p.cps.extract i (i + 1) == #[c]) = true) ↔ _
  have h : (p.cps.extract i (i + 1) == #[c]) = true ↔ ((cs p).drop i).take 1 = [c] := by
    rw [beq_iff_eq, ← e]
    exact ⟨fun z => by rw [z], fun z => by cases q : p.cps.extract i (i + 1); rw [q] at z; simpa using z⟩
  rw [h]
  have hl : p.length = (cs p).length := rfl
  constructor
  · rintro ⟨h1, h2⟩
    have : i < (cs p).length := by omega
    rw [List.drop_eq_getElem_cons this, List.take_succ_cons, List.take_zero] at h2
    injection h2 with h2 _
    rw [List.getElem?_eq_getElem this, h2]
  · intro h1
    have : i < (cs p).length := (List.getElem?_eq_some_iff.mp h1).1
    refine ⟨by omega, ?_⟩
    rw [List.drop_eq_getElem_cons this]
    rw [List.getElem?_eq_getElem this] at h1
    injection h1 with h1
    simp [h1]
/-- text.index of a sign -/
theorem index_sign {p : Str} {c : Nat} {a b : List Nat} (h : cs p = a ++ c :: b) (n : c ∉ a) : mtV .index (.at (.str p)) [.at (.str ⟨#[c]⟩)] = some (.va (.int (a.length : Nat))) := by
  have hit : (cs p)[a.length]? = some c := by rw [h]; simp
  have low : ∀ k, k < a.length → (cs p)[k]? ≠ some c := fun k hk e => by
    rw [h, List.getElem?_append_left hk] at e
    exact n (List.mem_of_getElem? e)
  show (match Builtin.Str.occurrences p ⟨#[c]⟩ 0 p.length 1 with | i :: _ => some (R.va (.int (i : Nat))) | [] => none) = _
  rcases StrLaws.occ_head p ⟨#[c]⟩ 1 (Nat.le_refl _) with ⟨_, z⟩ | ⟨i, r, e, g, z⟩
  · exact absurd ((at_sign p c a.length).mpr hit) (z _)
  · rw [e]
    have gi := (at_sign p c i).mp g
    have : i = a.length := by
      rcases Nat.lt_trichotomy i a.length with q | q | q
      · exact absurd gi (low i q)
      · exact q
      · exact absurd ((at_sign p c a.length).mpr hit) (z _ q)
    rw [this]
theorem cut_mid (l : List D) (a b : Nat) : BB.cutD l (some (a : Int)) (some (b : Int)) = (l.drop a).take (b - a) := by
  show (l.drop (HT.sIx l.length 0 (some (a : Int)))).take (HT.sIx l.length l.length (some (b : Int)) - HT.sIx l.length 0 (some (a : Int))) = _
  rw [HT.sIx_nat, HT.sIx_nat]
  rcases Nat.le_total a l.length with h | h
  · rw [Nat.min_eq_left h]
    rcases Nat.le_total b l.length with g | g
    · rw [Nat.min_eq_left g]
    · rw [Nat.min_eq_right g, List.take_of_length_le (by rw [List.length_drop]; omega), List.take_of_length_le (by rw [List.length_drop]; omega)]
  · rw [Nat.min_eq_right h, List.drop_length, List.drop_eq_nil_of_le h, List.take_nil, List.take_nil]
@[simp] theorem cut_mid' (l : List D) (a b : Nat) : BB.cutD l (some (no_index (OfNat.ofNat a : Int))) (some (no_index (OfNat.ofNat b : Int))) = (l.drop a).take (b - a) := cut_mid l a b
end BB

namespace BB
open PySem PySem.Spec PyProof.Rows L2
/-! boxes, step by step -/
section
variable (G : Prog) (cal : Nat → List D → Sto → CR)
@[simp] theorem ev_bx (c s) : ev G cal (.bx c) s = (ev G cal c s).bind bxR := rfl
@[simp] theorem bxR_fl (l s) : bxR (.fl l) s = .ok (.va (.ref s.st.length)) ⟨s.env, s.st ++ [.ls l]⟩ := rfl
@[simp] theorem bxR_fd (t l s) : bxR (.fd t l) s = .ok (.va (.ref s.st.length)) ⟨s.env, s.st ++ [.dc t l]⟩ := rfl
@[simp] theorem bxR_va (d s) : bxR (.va d) s = .ok (.va d) s := rfl
@[simp] theorem ev_dnw (t p s) : ev G cal (.dnw t p) s = .ok (.fd t []) s := rfl
@[simp] theorem ev_fld (o f p s) : ev G cal (.fld o f p) s = (ev G cal o s).bind (fldR G f) := rfl
@[simp] theorem fldR_s (f x s) : fldR G f x s = fld1 G f (bxOf x s) s := rfl
@[simp] theorem bxOf_ref (i s) : bxOf (.va (.ref i)) s = (s.st[i]?).map fun b => (i, b) := rfl
@[simp] theorem fld1_s (f i c fs s) : fld1 G f (some (i, .ins c fs)) s = if G.fldOk c f = true then opt ((fget f fs).map .va) s else .bad := rfl
@[simp] theorem fget_nil (f) : fget f [] = none := rfl
@[simp] theorem fget_cons (f g x r) : fget f ((g, x) :: r) = if f = g then some x else fget f r := rfl
@[simp] theorem fput_nil (f d) : fput f d [] = [(f, d)] := rfl
@[simp] theorem fput_cons (f d g x r) : fput f d ((g, x) :: r) = if g = f then (g, d) :: r else (g, x) :: fput f d r := rfl
def mth1 (n : Option Nat) (es : CL) (x : R) (s : S) : Oc R := match n with
  | some n => (evL G cal es s).bind (methK cal n x)
  | none => .bad
def kMeth (m : Str) (es : CL) (x : R) (s : S) : Oc R := mth1 G cal (mthOf G m (bxOf x s)) es x s
@[simp] theorem ev_meth (o m pa es p s) : ev G cal (.meth o m pa es p) s = (ev G cal o s).bind (kMeth G cal m es) := by
  show (ev G cal o s).bind _ = _
  congr 1
@[simp] theorem kMeth_s (m es x s) : kMeth G cal m es x s = mth1 G cal (mthOf G m (bxOf x s)) es x s := rfl
@[simp] theorem mth1_s (n es x s) : mth1 G cal (some n) es x s = (evL G cal es s).bind (methK cal n x) := rfl
def kMclr (x : R) (s : S) : Fl := if isL x s = true then nxO (chg clrB x s) else .bad
@[simp] theorem exs_mclr (o pa pc p s) : exs G cal (.mclr o pa pc p) s = (ev G cal o s).fl kMclr := rfl
@[simp] theorem kMclr_s (x s) : kMclr x s = if isL x s = true then nxO (chg clrB x s) else .bad := rfl
@[simp] theorem clrB_s (l) : clrB (.ls l) = some (.ls []) := rfl
def kDp2 (x y z : R) (s : S) : Oc R := dpopR x y (some z) s
def kDp1 (d : C) (x y : R) (s : S) : Oc R := (ev G cal d s).bind (kDp2 x y)
def kDpa (x y : R) (s : S) : Oc R := dpopR x y none s
def kDpop2 (k d : C) (x : R) (s : S) : Oc R := if (dkV (view s x)).isSome = true then (ev G cal k s).bind (kDp1 G cal d x) else .bad
def kDpop1 (k : C) (x : R) (s : S) : Oc R := if (dkV (view s x)).isSome = true then (ev G cal k s).bind (kDpa x) else .bad
@[simp] theorem ev_dpop1 (o k pa p s) : ev G cal (.dpop1 o k pa p) s = (ev G cal o s).bind (kDpop1 G cal k) := rfl
@[simp] theorem ev_dpop2 (o k d pa p s) : ev G cal (.dpop2 o k d pa p) s = (ev G cal o s).bind (kDpop2 G cal k d) := rfl
@[simp] theorem kDpop1_s (k x s) : kDpop1 G cal k x s = if (dkV (view s x)).isSome = true then (ev G cal k s).bind (kDpa x) else .bad := rfl
@[simp] theorem kDpop2_s (k d x s) : kDpop2 G cal k d x s = if (dkV (view s x)).isSome = true then (ev G cal k s).bind (kDp1 G cal d x) else .bad := rfl
@[simp] theorem kDp1_s (d x y s) : kDp1 G cal d x y s = (ev G cal d s).bind (kDp2 x y) := rfl
@[simp] theorem kDp2_s (x y z s) : kDp2 x y z s = dpopR x y (some z) s := rfl
@[simp] theorem kDpa_s (x y s) : kDpa x y s = dpopR x y none s := rfl
@[simp] theorem dkV_s (l) : dkV (some (.dc false l)) = some l := rfl
@[simp] theorem keyO_s (x : Str) : keyO (some (.str x)) = some (.inr x) := rfl
@[simp] theorem keyO_i (x : Int) : keyO (some (.int x)) = some (.inl x) := rfl
def dpo3 (s : S) (v : D) (o : Option S) : Oc R := match o with
  | some s1 => .ok (.va v) s1
  | none => .bad
def dpo2 (q : Key) (x : R) (d : Option R) (s : S) (v : Option D) : Oc R := match v with
  | some v => dpo3 s v (chg (dropB q) x s)
  | none => match d with
    | some r => .ok r s
    | none => .bad
def dpo1 (l : Option (List (D × D))) (q : Option Key) (x : R) (d : Option R) (s : S) : Oc R := match l, q with
  | some l, some q => dpo2 q x d s (dget (.inl q) l)
  | _, _ => .bad
@[simp] theorem dpopR_s (x y d s) : dpopR x y d s = dpo1 (dkV (view s x)) (keyO (keepR y)) x d s := by
  unfold dpopR dpo1
  cases dkV (view s x) with
  | none => rfl
  | some l =>
    cases keyO (keepR y) with
    | none => rfl
    | some q =>
      show (match dget (.inl q) l with | some v => _ | none => _) = dpo2 q x d s (dget (.inl q) l)
      cases dget (.inl q) l with
      | none => rfl
      | some v =>
        show (match chg (dropB q) x s with | some s1 => _ | none => _) = dpo3 s v (chg (dropB q) x s)
        cases chg (dropB q) x s <;> rfl
@[simp] theorem dpo1_s (l q x d s) : dpo1 (some l) (some q) x d s = dpo2 q x d s (dget (.inl q) l) := rfl
@[simp] theorem dpo2_s (q x d s v) : dpo2 q x d s (some v) = dpo3 s v (chg (dropB q) x s) := rfl
@[simp] theorem dpo2_n (q x r s) : dpo2 q x (some r) s none = .ok r s := rfl
@[simp] theorem dpo3_s (s v s1) : dpo3 s v (some s1) = .ok (.va v) s1 := rfl
@[simp] theorem dropB_s (q l) : dropB q (.dc false l) = some (.dc false (dropD q l)) := rfl
def kDctp (r : R) (s : S) : Oc R := opt (dctpV (view s r)) s
@[simp] theorem ev_dctp (c px p s) : ev G cal (.dctp c px p) s = (ev G cal c s).bind kDctp := rfl
@[simp] theorem kDctp_s (r s) : kDctp r s = opt (dctpV (view s r)) s := rfl
def dctp1 (q : Option (List (D × D))) : Option R := match q with
  | some q => (dputs [] q).map (.fd false)
  | none => none
@[simp] theorem dctpV_s (l) : dctpV (some (.ls l)) = dctp1 (pairsD l) := rfl
@[simp] theorem dctp1_s (q) : dctp1 (some q) = (dputs [] q).map (.fd false) := rfl
def kInb (r : R) (s : S) : Oc R := inbV r s
@[simp] theorem ev_inb (c px p s) : ev G cal (.inb c px p) s = (ev G cal c s).bind kInb := rfl
@[simp] theorem kInb_s (b s) : kInb (.va (.bl b)) s = .ok (.va (.int (if b = true then 1 else 0))) s := rfl
def kDctt (r : R) (s : S) : Oc R := opt (dcttV (view s r)) s
@[simp] theorem ev_dctt (c px p s) : ev G cal (.dctt c px p) s = (ev G cal c s).bind kDctt := rfl
@[simp] theorem kDctt_s (r s) : kDctt r s = opt (dcttV (view s r)) s := rfl
def dctt1 (q : Option (List (D × D))) : Option R := match q with
  | some q => (dputsT [] q).map (.fd true)
  | none => none
@[simp] theorem dcttV_s (l) : dcttV (some (.ls l)) = dctt1 (pairsD l) := rfl
@[simp] theorem dctt1_s (q) : dctt1 (some q) = (dputsT [] q).map (.fd true) := rfl
def kLset (r : R) (s : S) : Oc R := opt (lsetV (view s r)) s
@[simp] theorem ev_lset (c px p2 q p s) : ev G cal (.lset c px p2 q p) s = (ev G cal c s).bind kLset := rfl
@[simp] theorem kLset_s (r s) : kLset r s = opt (lsetV (view s r)) s := rfl
def lset1 (q : Option (List Str)) : Option R := match q with
  | some xs => if xs.length ≤ 4000 then some (.va (.int ((ddS xs).length : Nat))) else none
  | none => none
@[simp] theorem lsetV_s (l) : lsetV (some (.ls l)) = lset1 (strsD l) := rfl
@[simp] theorem lset1_s (xs) : lset1 (some xs) = if xs.length ≤ 4000 then some (.va (.int ((ddS xs).length : Nat))) else none := rfl
def g1b (x y : R) (s : S) : Oc R := match dcV (view s x), keepR y with
  | some (t, l), some k => match keyT t k with
    | some q => .ok (.va ((dget q l).getD .non)) s
    | none => .bad
  | _, _ => .bad
def g1a (l : Option (Bool × List (D × D))) (a : C) (x : R) (s : S) : Oc R := match l with
  | some _ => (ev G cal a s).bind (g1b x)
  | _ => .bad
def kG1 (a : C) (x : R) (s : S) : Oc R := g1a G cal (dcV (view s x)) a x s
@[simp] theorem ev_get1 (o a pa p s) : ev G cal (.get1 o a pa p) s = (ev G cal o s).bind (kG1 G cal a) := by
  show (ev G cal o s).bind _ = _
  congr 1
@[simp] theorem kG1_s (a x s) : kG1 G cal a x s = g1a G cal (dcV (view s x)) a x s := rfl
@[simp] theorem g1a_s (l a x s) : g1a G cal (some l) a x s = (ev G cal a s).bind (g1b x) := rfl
def g1c (o : Option (Bool × List (D × D))) (k : Option D) (s : S) : Oc R := match o, k with
  | some (t, l), some k => match keyT t k with
    | some q => .ok (.va ((dget q l).getD .non)) s
    | none => .bad
  | _, _ => .bad
@[simp] theorem g1b_s (x y s) : g1b x y s = g1c (dcV (view s x)) (keepR y) s := rfl
def g1d (q : Option (Sum Key (List Key))) (l : List (D × D)) (s : S) : Oc R := match q with
  | some q => .ok (.va ((dget q l).getD .non)) s
  | none => .bad
@[simp] theorem g1c_s (t l k s) : g1c (some (t, l)) (some k) s = g1d (keyT t k) l s := rfl
@[simp] theorem g1d_s (q l s) : g1d (some q) l s = .ok (.va ((dget q l).getD .non)) s := rfl
def sd3 (o : Option Vw) (ds : Option (List D)) (x : R) (s : S) : Oc R := match o, ds with
  | some (.dc t l), some [k, d] => match keyT t k with
    | some q => if l.length < sizeLine then (match dget q l with
      | some v => .ok (.va v) s
      | none => match chg (putB (some k) d) x s with
        | some s4 => .ok (.va d) s4
        | none => .bad) else .bad
    | none => .bad
  | _, _ => .bad
def sd2 (x y z : R) (s : S) : Oc R := sd3 (view s x) (keepRs [y, z]) x s
def sd1 (b : C) (x y : R) (s : S) : Oc R := (ev G cal b s).bind (sd2 x y)
def sd0 (l : Option (Bool × List (D × D))) (a b : C) (x : R) (s : S) : Oc R := match l with
  | some _ => (ev G cal a s).bind (sd1 G cal b x)
  | _ => .bad
def kSd (a b : C) (x : R) (s : S) : Oc R := sd0 G cal (dcV (view s x)) a b x s
@[simp] theorem ev_setd (o a b pa p s) : ev G cal (.setd o a b pa p) s = (ev G cal o s).bind (kSd G cal a b) := by
  show (ev G cal o s).bind _ = _
  congr 1
@[simp] theorem kSd_s (a b x s) : kSd G cal a b x s = sd0 G cal (dcV (view s x)) a b x s := rfl
@[simp] theorem sd0_s (l a b x s) : sd0 G cal (some l) a b x s = (ev G cal a s).bind (sd1 G cal b x) := rfl
@[simp] theorem sd1_s (b x y s) : sd1 G cal b x y s = (ev G cal b s).bind (sd2 x y) := rfl
@[simp] theorem sd2_s (x y z s) : sd2 x y z s = sd3 (view s x) (keepRs [y, z]) x s := rfl
theorem sd3_some {t : Bool} {l : List (D × D)} {k d v : D} {q : Sum Key (List Key)} {x : R} {s : S} (hk : keyT t k = some q) (hl : l.length < 16777216) (hd : dget q l = some v) : sd3 (some (.dc t l)) (some [k, d]) x s = .ok (.va v) s := by
  have hl : l.length < sizeLine := hl
  unfold sd3
  dsimp only
  rw [hk]
  dsimp only
  rw [if_pos hl, hd]
theorem sd3_none {t : Bool} {l : List (D × D)} {k d : D} {q : Sum Key (List Key)} {x : R} {s s' : S} (hk : keyT t k = some q) (hl : l.length < 16777216) (hd : dget q l = none) (hc : chg (putB (some k) d) x s = some s') : sd3 (some (.dc t l)) (some [k, d]) x s = .ok (.va d) s' := by
  have hl : l.length < sizeLine := hl
  unfold sd3
  dsimp only
  rw [hk]
  dsimp only
  rw [if_pos hl, hd]
  dsimp only
  rw [hc]
def kLkeys (r : R) (s : S) : Oc R := opt (lkeysV (view s r)) s
@[simp] theorem ev_lkeys (c px p s) : ev G cal (.lkeys c px p) s = (ev G cal c s).bind kLkeys := rfl
@[simp] theorem kLkeys_s (r s) : kLkeys r s = opt (lkeysV (view s r)) s := rfl
@[simp] theorem lkeysV_s (l) : lkeysV (some (.dc false l)) = some (.fl (l.map (·.1))) := rfl
@[simp] theorem exs_ret0 (p s) : exs G cal (.ret0 p) s = .rt (.va .non) s := rfl
def swp1 (i j : Nat) (r : Option (List D)) (s : S) : Fl := match r with
  | some [d, e] => .nx (setE (setE s i (.va d)) j (.va e))
  | _ => .bad
def kSwp (i j : Nat) (rs : List R) (s : S) : Fl := swp1 i j (keepRs rs) s
@[simp] theorem exs_swp2 (i x px j y py kt pt a b k2 pt2 p s) : exs G cal (.swp2 i x px j y py kt pt a b k2 pt2 p) s = (evL G cal (.cons a (.cons b .nil)) s).fl (kSwp i j) := rfl
@[simp] theorem kSwp_s (i j rs s) : kSwp i j rs s = swp1 i j (keepRs rs) s := rfl
@[simp] theorem swp1_s (i j d e s) : swp1 i j (some [d, e]) s = .nx (setE (setE s i (.va d)) j (.va e)) := rfl
def mtd3 (n : Nat) (x r : R) (s : S) : Oc R := methK cal n x [r, .va .non] s
def mtd2 (q : Option Str) (n : Nat) (a : C) (x : R) (s : S) : Oc R := match q with
  | some _ => (ev G cal a s).bind (mtd3 cal n x)
  | none => .bad
def mtd1 (n : Option Nat) (a : C) (x : R) (s : S) : Oc R := match n with
  | some n => mtd2 G cal (G.dfl n) n a x s
  | none => .bad
def kMtd (m : Str) (a : C) (x : R) (s : S) : Oc R := mtd1 G cal (mthOf G m (bxOf x s)) a x s
@[simp] theorem ev_mtd (o m pa a p s) : ev G cal (.mtd o m pa a p) s = (ev G cal o s).bind (kMtd G cal m a) := by
  show (ev G cal o s).bind _ = _
  congr 1
  funext x s
  unfold kMtd
  cases mthOf G m (bxOf x s) with
  | none => rfl
  | some n =>
    show (if (G.dfl n).isSome = true then _ else _) = mtd2 G cal (G.dfl n) n a x s
    cases G.dfl n <;> rfl
@[simp] theorem kMtd_s (m a x s) : kMtd G cal m a x s = mtd1 G cal (mthOf G m (bxOf x s)) a x s := rfl
@[simp] theorem mtd1_s (n a x s) : mtd1 G cal (some n) a x s = mtd2 G cal (G.dfl n) n a x s := rfl
@[simp] theorem mtd2_s (y n a x s) : mtd2 G cal (some y) n a x s = (ev G cal a s).bind (mtd3 cal n x) := rfl
@[simp] theorem mtd3_s (n x r s) : mtd3 cal n x r s = methK cal n x [r, .va .non] s := rfl
def mtk4 (n : Nat) (x r1 r2 : R) (s : S) : Oc R := methK cal n x [r1, r2] s
def mtk3 (n : Nat) (b : C) (x r1 : R) (s : S) : Oc R := (ev G cal b s).bind (mtk4 cal n x r1)
def mtk1 (n : Option Nat) (kw : Str) (a b : C) (x : R) (s : S) : Oc R := match n with
  | some n => if G.dfl n = some kw then (ev G cal a s).bind (mtk3 G cal n b x) else .bad
  | none => .bad
def kMtk (m : Str) (kw : Str) (a b : C) (x : R) (s : S) : Oc R := mtk1 G cal (mthOf G m (bxOf x s)) kw a b x s
@[simp] theorem ev_mtk (o m pa a kw pk b p s) : ev G cal (.mtk o m pa a kw pk b p) s = (ev G cal o s).bind (kMtk G cal m kw a b) := by
  show (ev G cal o s).bind _ = _
  congr 1
@[simp] theorem kMtk_s (m kw a b x s) : kMtk G cal m kw a b x s = mtk1 G cal (mthOf G m (bxOf x s)) kw a b x s := rfl
@[simp] theorem mtk1_s (n kw a b x s) : mtk1 G cal (some n) kw a b x s = if G.dfl n = some kw then (ev G cal a s).bind (mtk3 G cal n b x) else .bad := rfl
@[simp] theorem mtk3_s (n b x r1 s) : mtk3 G cal n b x r1 s = (ev G cal b s).bind (mtk4 cal n x r1) := rfl
@[simp] theorem mtk4_s (n x r1 r2 s) : mtk4 cal n x r1 r2 s = methK cal n x [r1, r2] s := rfl
def mo1 (m : Str) (c : Nat) (o : Option D) : Option Nat := match o with
  | none => G.mth c m
  | some _ => none
@[simp] theorem mthOf_s (m i c fs) : mthOf G m (some (i, .ins c fs)) = mo1 G m c (fget m fs) := by
  show (match fget m fs with | none => _ | some _ => _) = _
  cases fget m fs <;> rfl
@[simp] theorem mo1_n (m c) : mo1 G m c none = G.mth c m := rfl
def methk1 (n : Nat) (d : D) (r : Option (List D)) (s : S) : Oc R := match r with
  | some ds => call2 (cal n (d :: ds) s.st) s.env
  | none => .bad
@[simp] theorem methK_s (n d rs s) : methK cal n (.va d) rs s = methk1 cal n d (keepRs rs) s := by
  unfold methK methk1
  cases keepRs rs with
  | none => rfl
  | some ds =>
    show doCall cal n (d :: ds) s = call2 _ _
    unfold doCall
    cases cal n (d :: ds) s.st <;> rfl
@[simp] theorem methk1_s (n d ds s) : methk1 cal n d (some ds) s = call2 (cal n (d :: ds) s.st) s.env := rfl
def new2 (i : Nat) (env : List Slot) (r : CR) : Oc R := match r with
  | .ok (.va .non) st => .ok (.va (.ref i)) ⟨env, st⟩
  | .ex e fs st => .ex e fs ⟨env, st⟩
  | _ => .bad
def new1 (c : Nat) (r : Option (List D)) (n : Option Nat) (s : S) : Oc R := match r, n with
  | some ds, some n => new2 s.st.length s.env (cal n (.ref s.st.length :: ds) (s.st ++ [.ins c []]))
  | _, _ => .bad
@[simp] theorem ev_new (c x px es p s) : ev G cal (.new c x px es p) s = (evL G cal es s).bind (newR G cal c) := rfl
@[simp] theorem newR_s (c rs s) : newR G cal c rs s = new1 cal c (keepRs rs) (G.ini c) s := by
  show (match keepRs rs, G.ini c with | some ds, some n => _ | _, _ => _) = _
  cases keepRs rs with
  | none => rfl
  | some ds => cases G.ini c with
    | none => rfl
    | some n =>
      show (match cal n (.ref s.st.length :: ds) (s.st ++ [.ins c []]) with | .ok (.va .non) st => _ | .ex e fs st => _ | _ => _) = new2 _ _ _
      unfold new2
      rfl
@[simp] theorem new1_s (c ds n s) : new1 cal c (some ds) (some n) s = new2 s.st.length s.env (cal n (.ref s.st.length :: ds) (s.st ++ [.ins c []])) := rfl
@[simp] theorem new2_s (i env st) : new2 i env (.ok (.va .non) st) = .ok (.va (.ref i)) ⟨env, st⟩ := rfl
@[simp] theorem new2_x (i env e fs st) : new2 i env (.ex e fs st) = .ex e fs ⟨env, st⟩ := rfl
/-! statements -/
def sfl1 (o : C) (f : Str) (d : D) (s : S) : Fl := (ev G cal o s).fl fun x s2 => sfldF G f d (bxOf x s2) s2
def kSfl (f : Str) (d : D) (x : R) (s : S) : Fl := sfldF G f d (bxOf x s) s
def sfl0 (o : C) (f : Str) (d : Option D) (s : S) : Fl := match d with
  | some d => (ev G cal o s).fl (kSfl G f d)
  | none => .bad
def kSfld (o : C) (f : Str) (r : R) (s : S) : Fl := sfl0 G cal o f (keepR r) s
@[simp] theorem exs_sfld (o f po c p s) : exs G cal (.sfld o f po c p) s = (ev G cal c s).fl (kSfld G cal o f) := by
  show (ev G cal c s).fl _ = _
  congr 1
@[simp] theorem kSfld_s (o f r s) : kSfld G cal o f r s = sfl0 G cal o f (keepR r) s := rfl
@[simp] theorem sfl0_s (o f d s) : sfl0 G cal o f (some d) s = (ev G cal o s).fl (kSfl G f d) := rfl
@[simp] theorem kSfl_s (f d x s) : kSfl G f d x s = sfldF G f d (bxOf x s) s := rfl
@[simp] theorem sfldF_s (f d i c fs s) : sfldF G f d (some (i, .ins c fs)) s = if G.fldOk c f = true ∧ fs.length < 1000 then .nx (setB s i (.ins c (fput f d fs))) else .bad := rfl
@[simp] theorem setB_s (env st i b) : setB ⟨env, st⟩ i b = ⟨env, st.set i b⟩ := rfl
def kSp2 (d : D) (x y : R) (s : S) : Fl := nxO (chg (putB (keepR y) d) x s)
def kSp1 (k : C) (d : D) (x : R) (s : S) : Fl := (ev G cal k s).fl (kSp2 d x)
def sp0 (o k : C) (d : Option D) (s : S) : Fl := match d with
  | some d => (ev G cal o s).fl (kSp1 G cal k d)
  | none => .bad
def kSput (o k : C) (r : R) (s : S) : Fl := sp0 G cal o k (keepR r) s
@[simp] theorem exs_sput (o k po c p s) : exs G cal (.sput o k po c p) s = (ev G cal c s).fl (kSput G cal o k) := by
  show (ev G cal c s).fl _ = _
  congr 1
@[simp] theorem kSput_s (o k r s) : kSput G cal o k r s = sp0 G cal o k (keepR r) s := rfl
@[simp] theorem sp0_s (o k d s) : sp0 G cal o k (some d) s = (ev G cal o s).fl (kSp1 G cal k d) := rfl
@[simp] theorem kSp1_s (k d x s) : kSp1 G cal k d x s = (ev G cal k s).fl (kSp2 d x) := rfl
@[simp] theorem kSp2_s (d x y s) : kSp2 d x y s = nxO (chg (putB (keepR y) d) x s) := rfl
@[simp] theorem nxO_s (s) : nxO (some s) = .nx s := rfl
@[simp] theorem nxO_n : nxO none = .bad := rfl
@[simp] theorem nxO_if {p : Prop} [Decidable p] (a b) : nxO (if p then a else b) = if p then nxO a else nxO b := apply_ite _ _ _ _
def chb (f : Bx → Option Bx) (i : Nat) (b : Option Bx) (s : S) : Option S := match b with
  | some b => (f b).map fun b' => setB s i b'
  | none => none
@[simp] theorem chg_ref (f i s) : chg f (.va (.ref i)) s = chb f i s.st[i]? s := by
  show (match s.st[i]? with | some b => _ | none => _) = _
  cases s.st[i]? <;> rfl
@[simp] theorem chb_s (f i b s) : chb f i (some b) s = (f b).map fun b' => setB s i b' := rfl
def cho (f : Bx → Option Bx) (i : Nat) (y : Option Slot) (s : S) : Option S := match y with
  | some (.ol l) => (f (.ls l)).bind fun b' => (b2sl b').map fun y' => setE s i y'
  | some (.od t l) => (f (.dc t l)).bind fun b' => (b2sl b').map fun y' => setE s i y'
  | _ => none
@[simp] theorem chg_own (f i s) : chg f (.own i) s = cho f i s.env[i]? s := by
  show (match s.env[i]? with | some y => _ | none => _) = _
  cases s.env[i]? with
  | none => rfl
  | some y => cases y with
    | ol l =>
      show (match f (.ls l) with | some b' => _ | none => _) = (f (.ls l)).bind _
      cases f (.ls l) <;> rfl
    | od t l =>
      show (match f (.dc t l) with | some b' => _ | none => _) = (f (.dc t l)).bind _
      cases f (.dc t l) <;> rfl
    | _ => rfl
@[simp] theorem cho_ol (f i l s) : cho f i (some (.ol l)) s = (f (.ls l)).bind fun b' => (b2sl b').map fun y' => setE s i y' := rfl
@[simp] theorem cho_od (f i t l s) : cho f i (some (.od t l)) s = (f (.dc t l)).bind fun b' => (b2sl b').map fun y' => setE s i y' := rfl
@[simp] theorem b2sl_ls (l) : b2sl (.ls l) = some (.ol l) := rfl
@[simp] theorem b2sl_dc (t l) : b2sl (.dc t l) = some (.od t l) := rfl
def pbk (q : Option (Sum Key (List Key))) (t : Bool) (l : List (D × D)) (k v : D) : Option Bx := match q with
  | some q => if l.length < 16777216 then some (.dc t (dput k q v l)) else none
  | none => none
@[simp] theorem putB_dc (k v t l) : putB (some k) v (.dc t l) = pbk (keyT t k) t l k v := by
  show (match keyT t k with | some q => _ | none => _) = _
  cases keyT t k <;> rfl
@[simp] theorem pbk_s (q t l k v) : pbk (some q) t l k v = if l.length < 16777216 then some (.dc t (dput k q v l)) else none := rfl
@[simp] theorem appB_s (l d) : appB (some d) (.ls l) = if l.length < 16777216 then some (.ls (l ++ [d])) else none := rfl
@[simp] theorem extB_s (l m) : extB (some (.ls m)) (.ls l) = if l.length + m.length ≤ 16777216 then some (.ls (l ++ m)) else none := rfl
def isLb (b : Option Bx) : Bool := match b with
  | some (.ls _) => true
  | _ => false
def isLo (b : Option Slot) : Bool := match b with
  | some (.ol _) => true
  | _ => false
@[simp] theorem isL_ref (i s) : isL (.va (.ref i)) s = isLb s.st[i]? := rfl
@[simp] theorem isL_own (i s) : isL (.own i) s = isLo s.env[i]? := rfl
@[simp] theorem isLb_s (l) : isLb (some (.ls l)) = true := rfl
@[simp] theorem isLo_s (l) : isLo (some (.ol l)) = true := rfl
def kMapp2 (x r : R) (s : S) : Fl := nxO (chg (appB (keepR r)) x s)
def kMapp (c : C) (x : R) (s : S) : Fl := if isL x s = true then (ev G cal c s).fl (kMapp2 x) else .bad
@[simp] theorem exs_mapp (o pa c pc p s) : exs G cal (.mapp o pa c pc p) s = (ev G cal o s).fl (kMapp G cal c) := by
  show (ev G cal o s).fl _ = _
  congr 1
@[simp] theorem kMapp_s (c x s) : kMapp G cal c x s = if isL x s = true then (ev G cal c s).fl (kMapp2 x) else .bad := rfl
@[simp] theorem kMapp2_s (x r s) : kMapp2 x r s = nxO (chg (appB (keepR r)) x s) := rfl
def kMext2 (x r : R) (s : S) : Fl := if nlk r s = true then nxO (chg (extB (view s r)) x s) else .bad
def kMext (c : C) (x : R) (s : S) : Fl := if isL x s = true then (ev G cal c s).fl (kMext2 x) else .bad
@[simp] theorem exs_mext (o pa c pc p s) : exs G cal (.mext o pa c pc p) s = (ev G cal o s).fl (kMext G cal c) := by
  show (ev G cal o s).fl _ = _
  congr 1
@[simp] theorem kMext_s (c x s) : kMext G cal c x s = if isL x s = true then (ev G cal c s).fl (kMext2 x) else .bad := rfl
@[simp] theorem kMext2_s (x r s) : kMext2 x r s = if nlk r s = true then nxO (chg (extB (view s r)) x s) else .bad := rfl
def nlb (b : Option Bx) : Bool := match b with
  | some (.lkl _) => false
  | _ => true
@[simp] theorem nlk_ref (i s) : nlk (.va (.ref i)) s = nlb s.st[i]? := rfl
@[simp] theorem nlk_lst (l s) : nlk (.va (.lst l)) s = true := rfl
@[simp] theorem nlk_fl (l s) : nlk (.fl l) s = true := rfl
@[simp] theorem nlk_own (l s) : nlk (.own l) s = true := rfl
@[simp] theorem nlb_ls (l) : nlb (some (.ls l)) = true := rfl
def kPop (i : CO) (x : R) (s : S) : Oc R := if isL x s = true then (evO G cal i s).bind (popR x) else .bad
@[simp] theorem ev_pop (o i pa p s) : ev G cal (.pop o i pa p) s = (ev G cal o s).bind (kPop G cal i) := rfl
@[simp] theorem kPop_s (i x s) : kPop G cal i x s = if isL x s = true then (evO G cal i s).bind (popR x) else .bad := rfl
def pop2 (d : Option D) (s : Option S) : Oc R := match d, s with
  | some d, some s1 => .ok (.va d) s1
  | _, _ => .bad
@[simp] theorem popR_s (x j s) : popR x j s = pop2 (popV j (view s x)) (chg (popB j) x s) := by
  show (match popV j (view s x), chg (popB j) x s with | some d, some s1 => _ | _, _ => _) = _
  cases popV j (view s x) <;> cases chg (popB j) x s <;> rfl
@[simp] theorem pop2_s (d s) : pop2 (some d) (some s) = .ok (.va d) s := rfl
@[simp] theorem popV_s (j l) : popV j (some (.ls l)) = if l.length ≤ 16777216 then atI l (j.getD (-1)) else none := rfl
def pob (n : Option Nat) (l : List D) : Option Bx := match n with
  | some n => some (.ls (l.eraseIdx n))
  | none => none
@[simp] theorem popB_s (j l) : popB j (.ls l) = pob (ixN l.length (j.getD (-1))) l := by
  show (match ixN l.length (j.getD (-1)) with | some n => _ | none => _) = _
  cases ixN l.length (j.getD (-1)) <;> rfl
@[simp] theorem pob_s (n l) : pob (some n) l = some (.ls (l.eraseIdx n)) := rfl
/-! sorted -/
@[simp] theorem ev_srt (n c px p s) : ev G cal (.srt n c px p) s = (ev G cal c s).bind fun r s1 => srtR n (view s1 r) s1 := rfl
@[simp] theorem ev_srti (c pa pc px p s) : ev G cal (.srti c pa pc px p) s = (ev G cal c s).bind fun r s1 => srtiR (view s1 r) s1 := rfl
@[simp] theorem ev_srtk (k c n x pk pv px p s) : ev G cal (.srtk k c n x pk pv px p) s = (ev G cal c s).bind fun r s1 => srtkR cal k n (view s1 r) s1 := rfl
@[simp] theorem srtR_ls (n l s) : srtR n (some (.ls l)) s = srt1 n l s := rfl
@[simp] theorem srtR_dc (n t l s) : srtR n (some (.dc t l)) s = srt1 n (l.map (·.1)) s := rfl
@[simp] theorem srtiR_dc (t l s) : srtiR (some (.dc t l)) s = srt1 1 (l.map pairT) s := rfl
theorem srt1_ok {n l s} (h : okSrt n l = true) : srt1 n l s = .ok (.fl (srtL (ltS n) l)) s := if_pos h
def srtk1 (k : Nat) (l : List D) (r : Option (List D × Sto)) (s : S) : Oc R := match r with
  | some (ks, st) => if okSrt k ks = true then .ok (.fl ((srtL (fun a b => ltS k a.1 b.1) (ks.zip l)).map (·.2))) ⟨s.env, st⟩ else .bad
  | none => .bad
@[simp] theorem srtkR_ls (k n l s) : srtkR cal k n (some (.ls l)) s = srtk1 k l (keysOf cal n l s.st) s := by
  show (match keysOf cal n l s.st with | some (ks, st) => _ | none => _) = _
  cases keysOf cal n l s.st <;> rfl
theorem srtk1_ok {k l ks st s} (h : okSrt k ks = true) : srtk1 k l (some (ks, st)) s = .ok (.fl ((srtL (fun a b => ltS k a.1 b.1) (ks.zip l)).map (·.2))) ⟨s.env, st⟩ := if_pos h
/-! exceptions with a field -/
def rai1 (n : Nat) (d : Option D) (q : Option (Str × Option Nat)) (s : S) : Fl := match d, q with
  | some d, some (f, none) => .ex n [(f, d)] s
  | some (.str x), some (f, some m) => if x.length + m ≤ sizeLine then .ex n [(f, .str x)] s else .bad
  | _, _ => .bad
@[simp] theorem exs_raisx (n x px c pc p s) : exs G cal (.raisx n x px c pc p) s = (ev G cal c s).fl (raisF G n) := rfl
@[simp] theorem raisF_s (n r s) : raisF G n r s = rai1 n (keepR r) (G.xin n) s := by
  unfold raisF rai1
  cases keepR r with
  | none => rfl
  | some d => cases G.xin n with
    | none => cases d <;> rfl
    | some q =>
      obtain ⟨f, k⟩ := q
      cases k with
      | none => rfl
      | some m => cases d <;> rfl

@[simp] theorem rai1_n (n d f s) : rai1 n (some d) (some (f, none)) s = .ex n [(f, d)] s := rfl
@[simp] theorem rai1_s (n x f m s) : rai1 n (some (.str x)) (some (f, some m)) s = if x.length + m ≤ 16777216 then .ex n [(f, .str x)] s else .bad := rfl
@[simp] theorem ev_xfl (i x px f p s) : ev G cal (.xfl i x px f p) s = xfl1 G f s.env[i]? s := rfl
@[simp] theorem xfl1_s (f c fs s) : xfl1 G f (some (.xo c fs)) s = if (G.xin c).map (·.1) = some f then opt ((fget f fs).map .va) s else .bad := rfl
/-! walks over boxes -/
def lk1 (i : Nat) (b : Option Bx) (s : S) : Option (S × Option Nat) := match b with
  | some (.ls l) => some (setB s i (.lkl l), some i)
  | some (.dc t l) => some (setB s i (.lkd t l), some i)
  | some (.lkl _) => some (s, none)
  | some (.lkd _ _) => some (s, none)
  | _ => none
@[simp] theorem lkS_ref (i s) : lkS (.va (.ref i)) s = lk1 i s.st[i]? s := by
  show (match (s.st[i]?).map fun b => (i, b) with | some (i, b) => _ | none => _) = _
  cases s.st[i]? with
  | none => rfl
  | some b => cases b <;> rfl
@[simp] theorem lk1_ls (i l s) : lk1 i (some (.ls l)) s = some (setB s i (.lkl l), some i) := rfl
@[simp] theorem lk1_dc (i t l s) : lk1 i (some (.dc t l)) s = some (setB s i (.lkd t l), some i) := rfl
@[simp] theorem lk1_lkl (i l s) : lk1 i (some (.lkl l)) s = some (s, none) := rfl
@[simp] theorem lk1_lkd (i t l s) : lk1 i (some (.lkd t l)) s = some (s, none) := rfl
def ul1 (i : Nat) (b : Option Bx) (s : S) : Option S := match b with
  | some (.lkl l) => some (setB s i (.ls l))
  | some (.lkd t l) => some (setB s i (.dc t l))
  | _ => none
@[simp] theorem unlS_n (s) : unlS none s = some s := rfl
@[simp] theorem unlS_s (i s) : unlS (some i) s = ul1 i s.st[i]? s := by
  show (match s.st[i]? with | some b => _ | none => _) = _
  cases s.st[i]? with
  | none => rfl
  | some b => cases b <;> rfl
@[simp] theorem ul1_l (i l s) : ul1 i (some (.lkl l)) s = some (setB s i (.ls l)) := rfl
@[simp] theorem ul1_d (i t l s) : ul1 i (some (.lkd t l)) s = some (setB s i (.dc t l)) := rfl
def ulF (f : Fl) (o : Option S) : Fl := match f, o with
  | .nx _, some s => .nx s
  | .rt r _, some s => .rt r s
  | .ex c fs s, _ => .ex c fs s
  | _, _ => .bad
@[simp] theorem unlF_nx (o s) : unlF o (.nx s) = nxO (unlS o s) := rfl
def ulr (r : R) (o : Option S) : Fl := match o with
  | some s => .rt r s
  | none => .bad
@[simp] theorem unlF_rt (o r s) : unlF o (.rt r s) = ulr r (unlS o s) := by
  show (match unlS o s with | some s1 => _ | none => _) = _
  cases unlS o s <;> rfl
@[simp] theorem ulr_s (r s) : ulr r (some s) = .rt r s := rfl
@[simp] theorem unlF_ex (o c fs s) : unlF o (.ex c fs s) = .ex c fs s := rfl
@[simp] theorem unlF_bad (o) : unlF o .bad = .bad := rfl
@[simp] theorem unlF_if {p : Prop} [Decidable p] (o f g) : unlF o (if p then f else g) = if p then unlF o f else unlF o g := apply_ite _ _ _ _
def ulR (ys : List D) (o : Option S) : Oc R := match o with
  | some s => .ok (.fl ys) s
  | none => .bad
@[simp] theorem unlR_s (o ys s) : unlR o ys s = ulR ys (unlS o s) := by
  show (match unlS o s with | some s1 => _ | none => _) = _
  cases unlS o s <;> rfl
@[simp] theorem ulR_s (ys s) : ulR ys (some s) = .ok (.fl ys) s := rfl
def wkO (w : Wk) (b : Option Bx) : Option (List D) := match b with
  | some b => wkB w b
  | none => none
def kWk (w : Wk) (r : R) (s : S) : Oc (List D) := opt (wkR w r s) s
@[simp] theorem kWk_s (w r s) : kWk w r s = opt (wkR w r s) s := rfl
@[simp] theorem wkR_ref (w i s) : wkR w (.va (.ref i)) s = wkO w s.st[i]? := by
  show (match (s.st[i]?).map fun b => (i, b) with | some (_, b) => wkB w b | none => none) = _
  cases s.st[i]? <;> rfl
@[simp] theorem wkO_sl (l) : wkO .seq (some (.lkl l)) = some l := rfl
@[simp] theorem wkO_sd (t l) : wkO .seq (some (.lkd t l)) = some (l.map (·.1)) := rfl
@[simp] theorem wkO_vd (l) : wkO .vals (some (.lkd false l)) = some (l.map (·.2)) := rfl
@[simp] theorem wkO_en (l) : wkO .enum (some (.lkl l)) = some (enumD 0 l) := rfl
@[simp] theorem wkO_id (t l) : wkO .items (some (.lkd t l)) = some (l.map pairT) := rfl
@[simp] theorem pairT_s (k v) : pairT (k, v) = .tup [k, v] := rfl
def fol2 (tg : Tg) (w : Wk) (c : C) (b : CB) (o : Option (S × Option Nat)) : Fl := match o with
  | some (s0, u) => unlF u (((ev G cal c s0).bind (kWk w)).fl (kFor G cal tg b))
  | none => .bad
def fol1 (tg : Tg) (w : Wk) (c : C) (b : CB) (r : Oc R) (s : S) : Fl := match r with
  | .ok r _ => fol2 G cal tg w c b (lkS r s)
  | _ => .bad
@[simp] theorem exs_forl (tg w c pa pc b p s) : exs G cal (.forl tg w c pa pc b p) s = fol1 G cal tg w c b (ev G cal c s) s := by
  show (match ev G cal c s with | .ok r _ => _ | _ => _) = _
  cases ev G cal c s with
  | ok r s1 =>
    show (match lkS r s with | some (s0, u) => _ | none => _) = fol2 G cal tg w c b (lkS r s)
    cases lkS r s with
    | none => rfl
    | some q => rfl
  | ex c fs s1 => rfl
  | bad => rfl
@[simp] theorem fol1_s (tg w c b r s1 s) : fol1 G cal tg w c b (.ok r s1) s = fol2 G cal tg w c b (lkS r s) := rfl
@[simp] theorem fol2_s (tg w c b s0 u) : fol2 G cal tg w c b (some (s0, u)) = unlF u (((ev G cal c s0).bind (kWk w)).fl (kFor G cal tg b)) := rfl
def kLcl (elt : C) (tg : Tg) (ifs : CL) (own : List (Str × Nat)) (l : List D) (s : S) : Oc (List D) :=
  lcTurns (lcB G cal elt tg ifs own) l [] (wipeE s (own.map (·.2)))
def lcl2 (elt : C) (tg : Tg) (w : Wk) (c : C) (ifs : CL) (own : List (Str × Nat)) (o : Option (S × Option Nat)) : Oc R := match o with
  | some (s0, u) => (((ev G cal c s0).bind (kWk w)).bind (kLcl G cal elt tg ifs own)).bind (unlR u)
  | none => .bad
def lcl1 (elt : C) (tg : Tg) (w : Wk) (c : C) (ifs : CL) (own : List (Str × Nat)) (r : Oc R) (s : S) : Oc R := match r with
  | .ok r _ => lcl2 G cal elt tg w c ifs own (lkS r s)
  | _ => .bad
theorem bind_assoc {α β γ : Type} (o : Oc α) (f : α → S → Oc β) (g : β → S → Oc γ) : (o.bind f).bind g = o.bind fun a s => (f a s).bind g := by
  cases o <;> rfl
@[simp] theorem ev_lcl (elt tg w c pa pc ifs sc own p s) : ev G cal (.lcl elt tg w c pa pc ifs sc own p) s = lcl1 G cal elt tg w c ifs own (ev G cal c s) s := by
  show (match ev G cal c s with | .ok r _ => _ | _ => _) = _
  cases ev G cal c s with
  | ok r s1 =>
    show (match lkS r s with | some (s0, u) => _ | none => _) = lcl2 G cal elt tg w c ifs own (lkS r s)
    cases lkS r s with
    | none => rfl
    | some q =>
      obtain ⟨s0, u⟩ := q
      show (ev G cal c s0).bind _ = (((ev G cal c s0).bind (kWk w)).bind (kLcl G cal elt tg ifs own)).bind (unlR u)
      rw [bind_assoc, bind_assoc]
      congr 1
  | ex c fs s1 => rfl
  | bad => rfl
@[simp] theorem lcl1_s (elt tg w c ifs own r s1 s) : lcl1 G cal elt tg w c ifs own (.ok r s1) s = lcl2 G cal elt tg w c ifs own (lkS r s) := rfl
@[simp] theorem lcl2_s (elt tg w c ifs own s0 u) : lcl2 G cal elt tg w c ifs own (some (s0, u)) = (((ev G cal c s0).bind (kWk w)).bind (kLcl G cal elt tg ifs own)).bind (unlR u) := rfl
theorem kLcl_s (elt tg ifs own l s) : kLcl G cal elt tg ifs own l s = lcTurns (lcB G cal elt tg ifs own) l [] (wipeE s (own.map (·.2))) := rfl
def stl2 (i : Nat) (elt : C) (tg : Tg) (w : Wk) (c : C) (ifs : CL) (own : List (Str × Nat)) (o : Option (S × Option Nat)) : Fl := match o with
  | some (s0, u) => unlF u (((((ev G cal c s0).bind (kWk w)).bind (kLcl G cal elt tg ifs own)).bind kFl).fl (kSet i))
  | none => .bad
def stl1 (i : Nat) (elt : C) (tg : Tg) (w : Wk) (c : C) (ifs : CL) (own : List (Str × Nat)) (r : Oc R) (s : S) : Fl := match r with
  | .ok r _ => stl2 G cal i elt tg w c ifs own (lkS r s)
  | _ => .bad
@[simp] theorem exs_setl (i x px elt tg w c pa pc ifs sc own q p s) : exs G cal (.setl i x px elt tg w c pa pc ifs sc own q p) s = stl1 G cal i elt tg w c ifs own (ev G cal c s) s := by
  show (match ev G cal c s with | .ok r _ => _ | _ => _) = _
  cases ev G cal c s with
  | ok r s1 =>
    show (match lkS r s with | some (s0, u) => _ | none => _) = stl2 G cal i elt tg w c ifs own (lkS r s)
    cases lkS r s with
    | none => rfl
    | some q =>
      obtain ⟨s0, u⟩ := q
      show unlF u (((ev G cal c s0).bind _ |>.bind _).fl _) = unlF u (((((ev G cal c s0).bind (kWk w)).bind (kLcl G cal elt tg ifs own)).bind kFl).fl (kSet i))
      rw [bind_assoc ((ev G cal c s0).bind (kWk w))]
      congr 1
  | ex c fs s1 => rfl
  | bad => rfl
@[simp] theorem stl1_s (i elt tg w c ifs own r s1 s) : stl1 G cal i elt tg w c ifs own (.ok r s1) s = stl2 G cal i elt tg w c ifs own (lkS r s) := rfl
@[simp] theorem stl2_s (i elt tg w c ifs own s0 u) : stl2 G cal i elt tg w c ifs own (some (s0, u)) = unlF u (((((ev G cal c s0).bind (kWk w)).bind (kLcl G cal elt tg ifs own)).bind kFl).fl (kSet i)) := rfl
end
end BB

namespace BB
open PySem PySem.Spec PyProof.Rows L2
/-! data of a bounded depth -/
mutual
def okD : Nat → D → Bool
  | k, .non => true
  | k, .bl _ => true
  | k, .int _ => true
  | k, .str x => PyData.strOk x
  | k, .tup l => decide (0 < k) && okDs (k - 1) l
  | k, .ktup l => decide (0 < k) && okDs (k - 1) l
  | k, .lst l => decide (0 < k) && okDs (k - 1) l
  | _, _ => false
def okDs : Nat → List D → Bool
  | _, [] => true
  | k, d :: ds => okD k d && okDs k ds
end
theorem okDs_all {k : Nat} : ∀ {l : List D}, okDs k l = true ↔ ∀ d ∈ l, okD k d = true
  | [] => by simp [okDs]
  | d :: l => by
    rw [okDs, Bool.and_eq_true, okDs_all (l := l)]
    simp
mutual
theorem okD_p : ∀ (k : Nat) (d : D), okD k d = true → ∃ p, toP d = some p ∧ p.canLay0 = true ∧ p.depth ≤ k
  | k, .non, _ => ⟨_, rfl, by simp [PyData.canLay0], by simp [PyData.depth]⟩
  | k, .bl _, _ => ⟨_, rfl, by simp [PyData.canLay0], by simp [PyData.depth]⟩
  | k, .int _, _ => ⟨_, rfl, by simp [PyData.canLay0], by simp [PyData.depth]⟩
  | k, .str x, h => ⟨_, rfl, by simp only [PyData.canLay0]; simpa [okD] using h, by simp [PyData.depth]⟩
  | k, .tup l, h => by
    rw [okD, Bool.and_eq_true, decide_eq_true_eq] at h
    obtain ⟨ps, e, c, g⟩ := okDs_p (k - 1) l h.2
    exact ⟨.tuple ps, by unfold toP; rw [e], by simp only [PyData.canLay0]; exact c, by simp only [PyData.depth]; omega⟩
  | k, .ktup l, h => by
    rw [okD, Bool.and_eq_true, decide_eq_true_eq] at h
    obtain ⟨ps, e, c, g⟩ := okDs_p (k - 1) l h.2
    exact ⟨.tuple ps, by unfold toP; rw [e], by simp only [PyData.canLay0]; exact c, by simp only [PyData.depth]; omega⟩
  | k, .lst l, h => by
    rw [okD, Bool.and_eq_true, decide_eq_true_eq] at h
    obtain ⟨ps, e, c, g⟩ := okDs_p (k - 1) l h.2
    exact ⟨.list ps, by unfold toP; rw [e], by simp only [PyData.canLay0]; exact c, by simp only [PyData.depth]; omega⟩
  | _, .ty _, h => by simp [okD] at h
  | _, .fn _, h => by simp [okD] at h
  | _, .dct _ _, h => by simp [okD] at h
  | _, .ref _, h => by simp [okD] at h
  | _, .scr _, h => by simp [okD] at h
  | _, .exo _ _, h => by simp [okD] at h
theorem okDs_p : ∀ (k : Nat) (l : List D), okDs k l = true → ∃ ps, toPs l = some ps ∧ PyData.canLayAll0 ps = true ∧ PyData.depthAll ps ≤ k
  | k, [], _ => ⟨[], rfl, by simp [PyData.canLayAll0], by simp [PyData.depthAll]⟩
  | k, d :: l, h => by
    rw [okDs, Bool.and_eq_true] at h
    obtain ⟨p, e1, c1, g1⟩ := okD_p k d h.1
    obtain ⟨ps, e2, c2, g2⟩ := okDs_p k l h.2
    refine ⟨p :: ps, by unfold toPs; rw [e1, e2], by simp only [PyData.canLayAll0, c1, c2]; rfl, by simp only [PyData.depthAll]; omega⟩
end
/-- two lists of the same data are alike -/
theorem eqW_ls {L1 L2 : List D} (h : toPs L1 = toPs L2) (ok : okDs 60 L1 = true) : eqW (.ls L1) (.ls L2) = some true := by
  obtain ⟨ps, e, c, g⟩ := okDs_p 60 L1 ok
  have s : SeqAt.shaped (.list ps) = true := by
    unfold SeqAt.shaped
    rw [Bool.and_eq_true, decide_eq_true_eq]
    exact ⟨by simp only [PyData.canLay0]; exact c, by simp only [PyData.depth]; omega⟩
  have h1 : (Vw.ls L1).toP = some (.list ps) := by show (match toPs L1 with | some ps => _ | none => _) = _; rw [e]
  have h2 : (Vw.ls L2).toP = some (.list ps) := by show (match toPs L2 with | some ps => _ | none => _) = _; rw [← h, e]
  unfold eqW
  rw [show (Vw.ls L1).scal = none from rfl, h1, h2]
  dsimp only
  rw [if_pos ⟨s, s⟩, SeqAt.eqv_refl _ (SeqAt.canLay_of_shaped s)]
theorem eqW_tup {L1 L2 : List D} (h : toPs L1 = toPs L2) (ok : okDs 60 L1 = true) : eqW (.at (.tup L1)) (.at (.tup L2)) = some true := by
  obtain ⟨ps, e, c, g⟩ := okDs_p 60 L1 ok
  have s : SeqAt.shaped (.tuple ps) = true := by
    unfold SeqAt.shaped
    rw [Bool.and_eq_true, decide_eq_true_eq]
    exact ⟨by simp only [PyData.canLay0]; exact c, by simp only [PyData.depth]; omega⟩
  have h1 : (Vw.at (.tup L1)).toP = some (.tuple ps) := by show (match toPs L1 with | some ps => _ | none => _) = _; rw [e]
  have h2 : (Vw.at (.tup L2)).toP = some (.tuple ps) := by show (match toPs L2 with | some ps => _ | none => _) = _; rw [← h, e]
  unfold eqW
  rw [show (Vw.at (.tup L1)).scal = none from rfl, h1, h2]
  dsimp only
  rw [if_pos ⟨s, s⟩, SeqAt.eqv_refl _ (SeqAt.canLay_of_shaped s)]
/-- a list that holds something isn't empty -/
theorem eqW_ne {L : List D} (ok : okDs 60 L = true) (h : L ≠ []) : eqW (.ls L) (.ls []) = some false := by
  obtain ⟨ps, e, c, g⟩ := okDs_p 60 L ok
  have s : SeqAt.shaped (.list ps) = true := by
    unfold SeqAt.shaped
    rw [Bool.and_eq_true, decide_eq_true_eq]
    exact ⟨by simp only [PyData.canLay0]; exact c, by simp only [PyData.depth]; omega⟩
  have h1 : (Vw.ls L).toP = some (.list ps) := by show (match toPs L with | some ps => _ | none => _) = _; rw [e]
  have s0 : SeqAt.shaped (.list []) = true := by decide
  unfold eqW
  rw [show (Vw.ls L).scal = none from rfl, h1, show (Vw.ls []).toP = some (.list []) from rfl]
  dsimp only
  rw [if_pos ⟨s, s0⟩]
  congr 1
  cases ps with
  | nil => cases L with
    | nil => exact absurd rfl h
    | cons d l =>
      unfold toPs at e
      split at e <;> cases e
  | cons p ps => simp [PyData.eqv, PyData.eqvAll]
theorem toPs_map {α : Type} (f g : α → D) : ∀ l : List α, (∀ a ∈ l, toP (f a) = toP (g a)) → toPs (l.map f) = toPs (l.map g)
  | [], _ => rfl
  | a :: l, h => by
    rw [List.map_cons, List.map_cons]
    unfold toPs
    rw [h a (List.mem_cons_self ..), toPs_map f g l fun b m => h b (List.mem_cons_of_mem _ m)]
@[simp] theorem mt_upper_s (h : Str) : mtV .upper (.at (.str h)) [] = if h.length ≤ 5592405 then some (.va (.str (Txt.upper h))) else none := rfl
theorem cs_mul (x : Str) (n : Int) : cs (Txt.mul x n) = (List.replicate n.toNat (cs x)).flatten := by
  unfold Txt.mul
  split
  · rename_i h
    have : n.toNat = 0 := by omega
    rw [this]; rfl
  · rename_i h
    split
    · rename_i g
      rw [Bool.or_eq_true] at g
      rcases g with g | g
      · have : n = 1 := by simpa using g
        subst this
        simp
      · have g : x.length = 0 := by simpa using g
        have e : cs x = [] := List.eq_nil_of_length_eq_zero g
        rw [e]
        simp
    · show ((List.replicate n.toNat x.cps).foldl (· ++ ·) #[]).toList = _
      have go : ∀ (k : Nat) (a : Array Nat), ((List.replicate k x.cps).foldl (· ++ ·) a).toList = a.toList ++ (List.replicate k (cs x)).flatten := fun k => by
        induction k with
        | zero => intro a; simp
        | succ k ih =>
          intro a
          rw [List.replicate_succ, List.foldl_cons, ih, List.replicate_succ, List.flatten_cons, Array.toList_append, List.append_assoc]
          rfl
      rw [go]
      rfl
theorem upper_let : ∀ l : List Nat, (∀ c ∈ l, c ∈ LET) → cs (Txt.upper (tx l)) = l.map (· - 32)
  | [], _ => by decide +kernel
  | c :: l, h => by
    have lc : ∀ c ∈ LET, c < 128 ∧ (97 ≤ c ∧ c ≤ 122) := by decide
    obtain ⟨l1, l2⟩ := lc c (h c (List.mem_cons_self ..))
    have ex : tx (c :: l) = (⟨#[c]⟩ : Str) ++ tx l := cs_inj (by rw [cs_app]; rfl)
    rw [ex, PySem.W.KOpn.upper_app, PySem.W.KOpn.upper_one l1, if_pos l2, cs_app, upper_let l fun c m => h c (List.mem_cons_of_mem _ m)]
    rfl
/-! dicts of texts, written key by key -/
@[simp] theorem dput_s0 (k x : Str) (v : D) : dput (.str k) (.inl (.inr x)) v [] = [(.str k, v)] := rfl
theorem dput_sn {k a x : Str} {u v : D} {l : List (D × D)} (h : ¬ a = x) : dput (.str k) (.inl (.inr x)) v ((.str a, u) :: l) = (.str a, u) :: dput (.str k) (.inl (.inr x)) v l := by
  have e : ¬ dkey (.str a) = some (Sum.inl (Sum.inr x)) := fun z => by
    have z : (some (Sum.inl (Sum.inr a)) : Option (Sum Key (List Key))) = some (Sum.inl (Sum.inr x)) := z
    injection z with z
    injection z with z
    injection z with z
    exact h z
  unfold dput
  rw [List.any_cons, List.map_cons]
  dsimp only
  rw [if_neg e, decide_eq_false e, Bool.false_or]
  split <;> rfl
end BB

namespace L_k01_people
open PySem PySem.Spec PyProof.Rows L2 BB
def topS (i : Nat) : Stmt := PySem.Challenge.pw_bothbooks_k01_people.main.body.getD i (.Pass ⟨0, 0, 0, 0⟩)
def N_is_of : Nat := 0
def N_is_house : Nat := 1
def N_is_person : Nat := 2
def N_check_person : Nat := 3
def N_house_of : Nat := 4
def N_name_of : Nat := 5
def N__law_draws : Nat := 6
def N__law_told : Nat := 7
def N__law_word : Nat := 8
def N__law_spoilt : Nat := 9
def N__law_is_due : Nat := 10
def N__law_one : Nat := 11
def N_law : Nat := 12
def X_BookError : Nat := 0
def X_NoPerson : Nat := 1
def X_NoHouse : Nat := 2
def X_NoPair : Nat := 3
def G_LETTERS : Nat := 0
def G_SIGNS : Nat := 1
def G_MOST_HOUSE : Nat := 2
def G_MOST_NAME : Nat := 3
/-! is_of -/
def b_is_of : CB := (.cons (.ret (.and_ (.chain .LtE .LtE (.cint 1 0 ⟨16, 11, 16, 12⟩) (.bi .len ⟨16, 16, 16, 19⟩ (.cons (.var 0 "text" ⟨16, 20, 16, 24⟩) .nil) ⟨16, 16, 16, 25⟩) (.var 1 "most" ⟨16, 29, 16, 33⟩) ⟨16, 11, 16, 33⟩) (.cons (.bi .all ⟨16, 38, 16, 41⟩ (.cons (.lc (.cmp .In (.var 3 "sign" ⟨16, 43, 16, 47⟩) (.var 2 "signs" ⟨16, 51, 16, 56⟩) ⟨16, 43, 16, 56⟩) (.nm 3 "sign" ⟨16, 61, 16, 65⟩) (.sq (.var 0 "text" ⟨16, 69, 16, 73⟩)) .nil { kind := .function, names := [(".0", .local), ("sign", .local), ("signs", .free)], isGenerator := false, isCoroutine := false, more := [] } [("sign", 3)] ⟨16, 42, 16, 74⟩) .nil) ⟨16, 38, 16, 75⟩) .nil) ⟨16, 11, 16, 75⟩) ⟨16, 4, 16, 75⟩) .nil)
abbrev n_is_of : List Str := ["text", "most", "signs", "sign"]
abbrev p_is_of : List Str := ["text", "most", "signs"]
abbrev st_is_of : Stmt := topS 10
/-! is_house -/
def b_is_house : CB := (.cons (.ret (.and_ (.bi .isi ⟨18, 11, 18, 21⟩ (.cons (.var 0 "thing" ⟨18, 22, 18, 27⟩) (.cons (.bty "str" "str" ⟨18, 29, 18, 32⟩) .nil)) ⟨18, 11, 18, 33⟩) (.cons (.call N_is_of "is_of" ⟨18, 38, 18, 43⟩ (.cons (.var 0 "thing" ⟨18, 44, 18, 49⟩) (.cons (.glo G_MOST_HOUSE "MOST_HOUSE" ⟨18, 51, 18, 61⟩) (.cons (.glo G_LETTERS "LETTERS" ⟨18, 63, 18, 70⟩) .nil))) ⟨18, 38, 18, 71⟩) .nil) ⟨18, 11, 18, 71⟩) ⟨18, 4, 18, 71⟩) .nil)
abbrev n_is_house : List Str := ["thing"]
abbrev p_is_house : List Str := ["thing"]
abbrev st_is_house : Stmt := topS 11
/-! is_person -/
def b_is_person : CB := (.cons (.ifs (.or_ (.not_ (.bi .isi ⟨20, 11, 20, 21⟩ (.cons (.var 0 "thing" ⟨20, 22, 20, 27⟩) (.cons (.bty "str" "str" ⟨20, 29, 20, 32⟩) .nil)) ⟨20, 11, 20, 33⟩) ⟨20, 7, 20, 33⟩) (.cons (.cmp .NotEq (.mt .count (.var 0 "thing" ⟨20, 37, 20, 42⟩) ⟨20, 37, 20, 48⟩ (.cons (.cstr "@" 0 ⟨20, 49, 20, 52⟩) .nil) ⟨20, 37, 20, 53⟩) (.cint 1 0 ⟨20, 57, 20, 58⟩) ⟨20, 37, 20, 58⟩) .nil) ⟨20, 7, 20, 58⟩) (.cons (.ret (.cbl false 0 ⟨21, 15, 21, 20⟩) ⟨21, 8, 21, 20⟩) .nil) .nil ⟨20, 4, 21, 20⟩) (.cons (.unp [(1, "name", ⟨22, 4, 22, 8⟩), (2, "house", ⟨22, 10, 22, 15⟩)] 0 ⟨22, 4, 22, 15⟩ (.mt .split (.var 0 "thing" ⟨22, 18, 22, 23⟩) ⟨22, 18, 22, 29⟩ (.cons (.cstr "@" 0 ⟨22, 30, 22, 33⟩) .nil) ⟨22, 18, 22, 34⟩) ⟨22, 4, 22, 34⟩) (.cons (.ret (.and_ (.call N_is_of "is_of" ⟨23, 11, 23, 16⟩ (.cons (.var 1 "name" ⟨23, 17, 23, 21⟩) (.cons (.glo G_MOST_NAME "MOST_NAME" ⟨23, 23, 23, 32⟩) (.cons (.glo G_SIGNS "SIGNS" ⟨23, 34, 23, 39⟩) .nil))) ⟨23, 11, 23, 40⟩) (.cons (.call N_is_house "is_house" ⟨23, 45, 23, 53⟩ (.cons (.var 2 "house" ⟨23, 54, 23, 59⟩) .nil) ⟨23, 45, 23, 60⟩) .nil) ⟨23, 11, 23, 60⟩) ⟨23, 4, 23, 60⟩) .nil)))
abbrev n_is_person : List Str := ["thing", "name", "house"]
abbrev p_is_person : List Str := ["thing"]
abbrev st_is_person : Stmt := topS 12
/-! check_person -/
def b_check_person : CB := (.cons (.ifs (.not_ (.call N_is_person "is_person" ⟨25, 11, 25, 20⟩ (.cons (.var 0 "person" ⟨25, 21, 25, 27⟩) .nil) ⟨25, 11, 25, 28⟩) ⟨25, 7, 25, 28⟩) (.cons (.raise_ X_NoPerson "NoPerson" ⟨26, 14, 26, 22⟩ "no person" 0 ⟨26, 23, 26, 34⟩ ⟨26, 14, 26, 35⟩ ⟨26, 8, 26, 35⟩) .nil) .nil ⟨25, 4, 26, 35⟩) .nil)
abbrev n_check_person : List Str := ["person"]
abbrev p_check_person : List Str := ["person"]
abbrev st_check_person : Stmt := topS 13
/-! house_of -/
def b_house_of : CB := (.cons (.expr (.call N_check_person "check_person" ⟨28, 4, 28, 16⟩ (.cons (.var 0 "person" ⟨28, 17, 28, 23⟩) .nil) ⟨28, 4, 28, 24⟩) ⟨28, 4, 28, 24⟩) (.cons (.ret (.ix (.mt .split (.var 0 "person" ⟨29, 11, 29, 17⟩) ⟨29, 11, 29, 23⟩ (.cons (.cstr "@" 0 ⟨29, 24, 29, 27⟩) .nil) ⟨29, 11, 29, 28⟩) (.cint 1 0 ⟨29, 29, 29, 30⟩) ⟨29, 11, 29, 31⟩) ⟨29, 4, 29, 31⟩) .nil))
abbrev n_house_of : List Str := ["person"]
abbrev p_house_of : List Str := ["person"]
abbrev st_house_of : Stmt := topS 14
/-! name_of -/
def b_name_of : CB := (.cons (.expr (.call N_check_person "check_person" ⟨31, 4, 31, 16⟩ (.cons (.var 0 "person" ⟨31, 17, 31, 23⟩) .nil) ⟨31, 4, 31, 24⟩) ⟨31, 4, 31, 24⟩) (.cons (.ret (.ix (.mt .split (.var 0 "person" ⟨32, 11, 32, 17⟩) ⟨32, 11, 32, 23⟩ (.cons (.cstr "@" 0 ⟨32, 24, 32, 27⟩) .nil) ⟨32, 11, 32, 28⟩) (.cint 0 0 ⟨32, 29, 32, 30⟩) ⟨32, 11, 32, 31⟩) ⟨32, 4, 32, 31⟩) .nil))
abbrev n_name_of : List Str := ["person"]
abbrev p_name_of : List Str := ["person"]
abbrev st_name_of : Stmt := topS 15
/-! _law_draws -/
def b__law_draws_0 : CB := (.cons (.set 3 "_law_low" ⟨40, 8, 40, 16⟩ (.bin .Mod (.bin .Mult (.var 3 "_law_low" ⟨40, 19, 40, 27⟩) (.cint 48271 0 ⟨40, 30, 40, 35⟩) ⟨40, 19, 40, 35⟩) (.cint 2147483647 0 ⟨40, 38, 40, 48⟩) ⟨40, 19, 40, 48⟩) ⟨40, 8, 40, 48⟩) (.cons (.set 4 "_law_other" ⟨41, 8, 41, 18⟩ (.bin .Add (.bin .Mod (.bin .Mult (.var 4 "_law_other" ⟨41, 21, 41, 31⟩) (.cint 69621 0 ⟨41, 34, 41, 39⟩) ⟨41, 21, 41, 39⟩) (.cint 2147483629 0 ⟨41, 42, 41, 52⟩) ⟨41, 21, 41, 52⟩) (.var 6 "_law_k" ⟨41, 55, 41, 61⟩) ⟨41, 21, 41, 61⟩) ⟨41, 8, 41, 61⟩) (.cons (.set 7 "_law_draw" ⟨42, 8, 42, 17⟩ (.bin .Mod (.bin .Add (.bin .FloorDiv (.var 3 "_law_low" ⟨42, 21, 42, 29⟩) (.cint 16 0 ⟨42, 33, 42, 35⟩) ⟨42, 21, 42, 35⟩) (.bin .FloorDiv (.var 4 "_law_other" ⟨42, 38, 42, 48⟩) (.cint 4096 0 ⟨42, 52, 42, 56⟩) ⟨42, 38, 42, 56⟩) ⟨42, 21, 42, 56⟩) (.cint 720 0 ⟨42, 60, 42, 63⟩) ⟨42, 20, 42, 63⟩) ⟨42, 8, 42, 63⟩) (.cons (.ifs (.cmp .Gt (.var 5 "_law_rest" ⟨43, 11, 43, 20⟩) (.cint 0 0 ⟨43, 23, 43, 24⟩) ⟨43, 11, 43, 24⟩) (.cons (.set 7 "_law_draw" ⟨44, 12, 44, 21⟩ (.bin .Mod (.var 5 "_law_rest" ⟨44, 24, 44, 33⟩) (.cint 720 0 ⟨44, 36, 44, 39⟩) ⟨44, 24, 44, 39⟩) ⟨44, 12, 44, 39⟩) (.cons (.set 5 "_law_rest" ⟨45, 12, 45, 21⟩ (.bin .FloorDiv (.var 5 "_law_rest" ⟨45, 24, 45, 33⟩) (.cint 720 0 ⟨45, 37, 45, 40⟩) ⟨45, 24, 45, 40⟩) ⟨45, 12, 45, 40⟩) .nil)) .nil ⟨43, 8, 45, 40⟩) (.cons (.app 2 "_law_found" ⟨46, 8, 46, 18⟩ ⟨46, 8, 46, 25⟩ (.var 7 "_law_draw" ⟨46, 26, 46, 35⟩) ⟨46, 8, 46, 36⟩ ⟨46, 8, 46, 36⟩) .nil)))))
def b__law_draws : CB := (.cons (.seto 2 "_law_found" ⟨35, 4, 35, 14⟩ (.lst .nil ⟨35, 17, 35, 19⟩) ⟨35, 4, 35, 19⟩) (.cons (.set 3 "_law_low" ⟨36, 4, 36, 12⟩ (.bin .Add (.bin .Mod (.bi .abs ⟨36, 15, 36, 18⟩ (.cons (.var 0 "_law_cell" ⟨36, 19, 36, 28⟩) .nil) ⟨36, 15, 36, 29⟩) (.cint 2147483647 0 ⟨36, 32, 36, 42⟩) ⟨36, 15, 36, 42⟩) (.cint 1 0 ⟨36, 45, 36, 46⟩) ⟨36, 15, 36, 46⟩) ⟨36, 4, 36, 46⟩) (.cons (.set 4 "_law_other" ⟨37, 4, 37, 14⟩ (.bin .Add (.bin .Mod (.bi .abs ⟨37, 17, 37, 20⟩ (.cons (.var 0 "_law_cell" ⟨37, 21, 37, 30⟩) .nil) ⟨37, 17, 37, 31⟩) (.cint 2147483629 0 ⟨37, 34, 37, 44⟩) ⟨37, 17, 37, 44⟩) (.cint 7 0 ⟨37, 47, 37, 48⟩) ⟨37, 17, 37, 48⟩) ⟨37, 4, 37, 48⟩) (.cons (.set 5 "_law_rest" ⟨38, 4, 38, 13⟩ (.bin .Mult (.var 0 "_law_cell" ⟨38, 16, 38, 25⟩) (.bi .int ⟨38, 28, 38, 31⟩ (.cons (.cmp .GtE (.var 0 "_law_cell" ⟨38, 32, 38, 41⟩) (.bin .Pow (.cint 10 0 ⟨38, 45, 38, 47⟩) (.cint 18 0 ⟨38, 51, 38, 53⟩) ⟨38, 45, 38, 53⟩) ⟨38, 32, 38, 53⟩) .nil) ⟨38, 28, 38, 54⟩) ⟨38, 16, 38, 54⟩) ⟨38, 4, 38, 54⟩) (.cons (.for_ (.nm 6 "_law_k" ⟨39, 8, 39, 14⟩) (.rng1 (.var 1 "_law_many" ⟨39, 24, 39, 33⟩) ⟨39, 18, 39, 23⟩ ⟨39, 18, 39, 34⟩) b__law_draws_0 ⟨39, 4, 46, 36⟩) (.cons (.ret (.mv 2 "_law_found" ⟨47, 11, 47, 21⟩) ⟨47, 4, 47, 21⟩) .nil))))))
abbrev n__law_draws : List Str := ["_law_cell", "_law_many", "_law_found", "_law_low", "_law_other", "_law_rest", "_law_k", "_law_draw"]
abbrev p__law_draws : List Str := ["_law_cell", "_law_many"]
abbrev st__law_draws : Stmt := topS 17
/-! _law_told -/
def b__law_told_0 : CB := (.cons (.try_ (.cons (.app 1 "_law_found" ⟨52, 12, 52, 22⟩ ⟨52, 12, 52, 29⟩ (.calv 2 "_law_deed" ⟨52, 30, 52, 39⟩ (.cons (.var 0 "_law_thing" ⟨52, 40, 52, 50⟩) .nil) ⟨52, 30, 52, 51⟩) ⟨52, 12, 52, 52⟩ ⟨52, 12, 52, 52⟩) .nil) (.as_ X_BookError "BookError" ⟨53, 15, 53, 24⟩ 3 "e" (.set 4 "_law_marks" ⟨54, 12, 54, 22⟩ (.lst (.cons (.isx 3 "e" ⟨54, 37, 54, 38⟩ ⟨54, 26, 54, 36⟩ X_NoPerson "NoPerson" ⟨54, 40, 54, 48⟩ ⟨54, 26, 54, 49⟩) (.cons (.isxb 3 "e" ⟨54, 62, 54, 63⟩ ⟨54, 51, 54, 61⟩ "ValueError" ⟨54, 65, 54, 75⟩ ⟨54, 51, 54, 76⟩) (.cons (.isxt 3 "e" ⟨54, 89, 54, 90⟩ ⟨54, 78, 54, 88⟩ [(X_NoHouse, "NoHouse", ⟨54, 93, 54, 100⟩), (X_NoPair, "NoPair", ⟨54, 102, 54, 108⟩)] 0 ⟨54, 92, 54, 109⟩ ⟨54, 78, 54, 110⟩) .nil))) ⟨54, 25, 54, 111⟩) ⟨54, 12, 54, 111⟩) (.cons (.app 1 "_law_found" ⟨55, 12, 55, 22⟩ ⟨55, 12, 55, 29⟩ (.cmp .Eq (.var 4 "_law_marks" ⟨55, 30, 55, 40⟩) (.lst (.cons (.cbl true 0 ⟨55, 45, 55, 49⟩) (.cons (.cbl true 0 ⟨55, 51, 55, 55⟩) (.cons (.cbl false 0 ⟨55, 57, 55, 62⟩) .nil))) ⟨55, 44, 55, 63⟩) ⟨55, 30, 55, 63⟩) ⟨55, 12, 55, 64⟩ ⟨55, 12, 55, 64⟩) .nil) ⟨53, 8, 55, 64⟩ .nil) ⟨51, 8, 55, 64⟩) .nil)
def b__law_told : CB := (.cons (.seto 1 "_law_found" ⟨49, 4, 49, 14⟩ (.lst .nil ⟨49, 17, 49, 19⟩) ⟨49, 4, 49, 19⟩) (.cons (.for_ (.nm 2 "_law_deed" ⟨50, 8, 50, 17⟩) (.sq (.tup (.cons (.fnv N_house_of "house_of" ⟨50, 22, 50, 30⟩) (.cons (.fnv N_name_of "name_of" ⟨50, 32, 50, 39⟩) .nil)) 0 ⟨50, 21, 50, 40⟩)) b__law_told_0 ⟨50, 4, 55, 64⟩) (.cons (.ret (.mv 1 "_law_found" ⟨56, 11, 56, 21⟩) ⟨56, 4, 56, 21⟩) .nil)))
abbrev n__law_told : List Str := ["_law_thing", "_law_found", "_law_deed", "e", "_law_marks"]
abbrev p__law_told : List Str := ["_law_thing"]
abbrev st__law_told : Stmt := topS 18
/-! _law_word -/
def b__law_word : CB := (.cons (.ret (.mt .join (.cstr "" 0 ⟨58, 11, 58, 13⟩) ⟨58, 11, 58, 18⟩ (.cons (.lc (.ix (.var 3 "_law_signs" ⟨58, 20, 58, 30⟩) (.bin .Mod (.bin .Add (.ix (.var 0 "_law_xs" ⟨58, 32, 58, 39⟩) (.var 1 "_law_k" ⟨58, 40, 58, 46⟩) ⟨58, 32, 58, 47⟩) (.ix (.var 0 "_law_xs" ⟨58, 50, 58, 57⟩) (.bin .Add (.bin .Add (.var 1 "_law_k" ⟨58, 58, 58, 64⟩) (.cint 1 0 ⟨58, 67, 58, 68⟩) ⟨58, 58, 58, 68⟩) (.var 4 "_law_j" ⟨58, 71, 58, 77⟩) ⟨58, 58, 58, 77⟩) ⟨58, 50, 58, 78⟩) ⟨58, 32, 58, 78⟩) (.bi .len ⟨58, 82, 58, 85⟩ (.cons (.var 3 "_law_signs" ⟨58, 86, 58, 96⟩) .nil) ⟨58, 82, 58, 97⟩) ⟨58, 31, 58, 97⟩) ⟨58, 20, 58, 98⟩) (.nm 4 "_law_j" ⟨58, 103, 58, 109⟩) (.rng1 (.bin .Add (.cint 1 0 ⟨58, 119, 58, 120⟩) (.bin .Mod (.ix (.var 0 "_law_xs" ⟨58, 123, 58, 130⟩) (.var 1 "_law_k" ⟨58, 131, 58, 137⟩) ⟨58, 123, 58, 138⟩) (.var 2 "_law_most" ⟨58, 141, 58, 150⟩) ⟨58, 123, 58, 150⟩) ⟨58, 119, 58, 150⟩) ⟨58, 113, 58, 118⟩ ⟨58, 113, 58, 151⟩) .nil { kind := .function, names := [(".0", .local), ("_law_j", .local), ("len", .globalImplicit), ("_law_k", .free), ("_law_signs", .free), ("_law_xs", .free)], isGenerator := false, isCoroutine := false, more := [] } [("_law_j", 4)] ⟨58, 19, 58, 152⟩) .nil) ⟨58, 11, 58, 153⟩) ⟨58, 4, 58, 153⟩) .nil)
abbrev n__law_word : List Str := ["_law_xs", "_law_k", "_law_most", "_law_signs", "_law_j"]
abbrev p__law_word : List Str := ["_law_xs", "_law_k", "_law_most", "_law_signs"]
abbrev st__law_word : Stmt := topS 19
/-! _law_spoilt -/
def b__law_spoilt : CB := (.cons (.set 2 "_law_at" ⟨60, 4, 60, 11⟩ (.bin .Mod (.ix (.var 1 "_law_xs" ⟨60, 14, 60, 21⟩) (.cint 20 0 ⟨60, 22, 60, 24⟩) ⟨60, 14, 60, 25⟩) (.bin .Add (.bi .len ⟨60, 29, 60, 32⟩ (.cons (.var 0 "_law_text" ⟨60, 33, 60, 42⟩) .nil) ⟨60, 29, 60, 43⟩) (.cint 1 0 ⟨60, 46, 60, 47⟩) ⟨60, 29, 60, 47⟩) ⟨60, 14, 60, 48⟩) ⟨60, 4, 60, 48⟩) (.cons (.tokm (.set 3 "_law_bad" ⟨61, 4, 61, 12⟩ (.ix (.cstr "ABZ_ .,:/+@\"'~!" 0 ⟨61, 15, 61, 33⟩) (.bin .Mod (.ix (.var 1 "_law_xs" ⟨61, 34, 61, 41⟩) (.cint 21 0 ⟨61, 42, 61, 44⟩) ⟨61, 34, 61, 45⟩) (.cint 15 0 ⟨61, 48, 61, 50⟩) ⟨61, 34, 61, 50⟩) ⟨61, 15, 61, 51⟩) ⟨61, 4, 61, 51⟩)) (.cons (.rep 4 "_law_far" ⟨62, 4, 62, 12⟩ 0 "_law_text" ⟨62, 15, 62, 24⟩ "@" "" 0 0 ⟨62, 33, 62, 36⟩ ⟨62, 38, 62, 40⟩ ⟨62, 15, 62, 32⟩ ⟨62, 15, 62, 41⟩ ⟨62, 4, 62, 41⟩) (.cons (.set 5 "_law_some" ⟨63, 4, 63, 13⟩ (.lst (.cons (.bin .Add (.bin .Add (.sl (.var 0 "_law_text" ⟨63, 17, 63, 26⟩) .no (.so (.var 2 "_law_at" ⟨63, 28, 63, 35⟩)) ⟨63, 27, 63, 35⟩ ⟨63, 17, 63, 36⟩) (.var 3 "_law_bad" ⟨63, 39, 63, 47⟩) ⟨63, 17, 63, 47⟩) (.sl (.var 0 "_law_text" ⟨63, 50, 63, 59⟩) (.so (.var 2 "_law_at" ⟨63, 60, 63, 67⟩)) .no ⟨63, 60, 63, 68⟩ ⟨63, 50, 63, 69⟩) ⟨63, 17, 63, 69⟩) (.cons (.bin .Add (.sl (.var 0 "_law_text" ⟨63, 71, 63, 80⟩) .no (.so (.var 2 "_law_at" ⟨63, 82, 63, 89⟩)) ⟨63, 81, 63, 89⟩ ⟨63, 71, 63, 90⟩) (.sl (.var 0 "_law_text" ⟨63, 93, 63, 102⟩) (.so (.bin .Add (.var 2 "_law_at" ⟨63, 103, 63, 110⟩) (.cint 1 0 ⟨63, 113, 63, 114⟩) ⟨63, 103, 63, 114⟩)) .no ⟨63, 103, 63, 115⟩ ⟨63, 93, 63, 116⟩) ⟨63, 71, 63, 116⟩) (.cons (.var 4 "_law_far" ⟨63, 118, 63, 126⟩) (.cons (.bin .Add (.var 0 "_law_text" ⟨63, 128, 63, 137⟩) (.var 0 "_law_text" ⟨63, 140, 63, 149⟩) ⟨63, 128, 63, 149⟩) (.cons (.sl (.var 0 "_law_text" ⟨63, 151, 63, 160⟩) (.so (.var 2 "_law_at" ⟨63, 161, 63, 168⟩)) .no ⟨63, 161, 63, 169⟩ ⟨63, 151, 63, 170⟩) (.cons (.sl (.var 0 "_law_text" ⟨63, 172, 63, 181⟩) .no (.so (.var 2 "_law_at" ⟨63, 183, 63, 190⟩)) ⟨63, 182, 63, 190⟩ ⟨63, 172, 63, 191⟩) .nil)))))) ⟨63, 16, 63, 192⟩) ⟨63, 4, 63, 192⟩) (.cons (.ret (.ix (.bin .Add (.var 5 "_law_some" ⟨64, 12, 64, 21⟩) (.lst (.cons (.bin .Add (.var 0 "_law_text" ⟨64, 25, 64, 34⟩) (.bin .Mult (.cstr "a" 0 ⟨64, 37, 64, 40⟩) (.ix (.var 1 "_law_xs" ⟨64, 43, 64, 50⟩) (.cint 22 0 ⟨64, 51, 64, 53⟩) ⟨64, 43, 64, 54⟩) ⟨64, 37, 64, 54⟩) ⟨64, 25, 64, 54⟩) (.cons (.bin .Add (.bin .Mult (.cstr "a" 0 ⟨64, 56, 64, 59⟩) (.ix (.var 1 "_law_xs" ⟨64, 62, 64, 69⟩) (.cint 22 0 ⟨64, 70, 64, 72⟩) ⟨64, 62, 64, 73⟩) ⟨64, 56, 64, 73⟩) (.var 0 "_law_text" ⟨64, 76, 64, 85⟩) ⟨64, 56, 64, 85⟩) (.cons (.bin .Add (.cstr "1" 0 ⟨64, 87, 64, 90⟩) (.var 4 "_law_far" ⟨64, 93, 64, 101⟩) ⟨64, 87, 64, 101⟩) .nil))) ⟨64, 24, 64, 102⟩) ⟨64, 12, 64, 102⟩) (.bin .Mod (.ix (.var 1 "_law_xs" ⟨64, 104, 64, 111⟩) (.cint 23 0 ⟨64, 112, 64, 114⟩) ⟨64, 104, 64, 115⟩) (.cint 9 0 ⟨64, 118, 64, 119⟩) ⟨64, 104, 64, 119⟩) ⟨64, 11, 64, 120⟩) ⟨64, 4, 64, 120⟩) .nil)))))
abbrev n__law_spoilt : List Str := ["_law_text", "_law_xs", "_law_at", "_law_bad", "_law_far", "_law_some"]
abbrev p__law_spoilt : List Str := ["_law_text", "_law_xs"]
abbrev st__law_spoilt : Stmt := topS 20
/-! _law_is_due -/
def b__law_is_due : CB := (.cons (.ifs (.cmp .NotEq (.mt .count (.var 0 "_law_text" ⟨66, 7, 66, 16⟩) ⟨66, 7, 66, 22⟩ (.cons (.cstr "@" 0 ⟨66, 23, 66, 26⟩) .nil) ⟨66, 7, 66, 27⟩) (.cint 1 0 ⟨66, 31, 66, 32⟩) ⟨66, 7, 66, 32⟩) (.cons (.ret (.cbl false 0 ⟨67, 15, 67, 20⟩) ⟨67, 8, 67, 20⟩) .nil) .nil ⟨66, 4, 67, 20⟩) (.cons (.set 1 "_law_name" ⟨68, 4, 68, 13⟩ (.sl (.var 0 "_law_text" ⟨68, 16, 68, 25⟩) .no (.so (.mt .index (.var 0 "_law_text" ⟨68, 27, 68, 36⟩) ⟨68, 27, 68, 42⟩ (.cons (.cstr "@" 0 ⟨68, 43, 68, 46⟩) .nil) ⟨68, 27, 68, 47⟩)) ⟨68, 26, 68, 47⟩ ⟨68, 16, 68, 48⟩) ⟨68, 4, 68, 48⟩) (.cons (.set 2 "_law_home" ⟨69, 4, 69, 13⟩ (.sl (.var 0 "_law_text" ⟨69, 16, 69, 25⟩) (.so (.bin .Add (.mt .index (.var 0 "_law_text" ⟨69, 26, 69, 35⟩) ⟨69, 26, 69, 41⟩ (.cons (.cstr "@" 0 ⟨69, 42, 69, 45⟩) .nil) ⟨69, 26, 69, 46⟩) (.cint 1 0 ⟨69, 49, 69, 50⟩) ⟨69, 26, 69, 50⟩)) .no ⟨69, 26, 69, 51⟩ ⟨69, 16, 69, 52⟩) ⟨69, 4, 69, 52⟩) (.cons (.set 3 "_law_small" ⟨70, 4, 70, 14⟩ (.cstr "abcdefghijklmnopqrstuvwxyz" 0 ⟨70, 17, 70, 45⟩) ⟨70, 4, 70, 45⟩) (.cons (.ifs (.or_ (.not_ (.chain .LtE .LtE (.cint 1 0 ⟨71, 11, 71, 12⟩) (.bi .len ⟨71, 16, 71, 19⟩ (.cons (.var 1 "_law_name" ⟨71, 20, 71, 29⟩) .nil) ⟨71, 16, 71, 30⟩) (.cint 8 0 ⟨71, 34, 71, 35⟩) ⟨71, 11, 71, 35⟩) ⟨71, 7, 71, 35⟩) (.cons (.not_ (.chain .LtE .LtE (.cint 1 0 ⟨71, 43, 71, 44⟩) (.bi .len ⟨71, 48, 71, 51⟩ (.cons (.var 2 "_law_home" ⟨71, 52, 71, 61⟩) .nil) ⟨71, 48, 71, 62⟩) (.cint 6 0 ⟨71, 66, 71, 67⟩) ⟨71, 43, 71, 67⟩) ⟨71, 39, 71, 67⟩) .nil) ⟨71, 7, 71, 67⟩) (.cons (.ret (.cbl false 0 ⟨72, 15, 72, 20⟩) ⟨72, 8, 72, 20⟩) .nil) .nil ⟨71, 4, 72, 20⟩) (.cons (.ret (.and_ (.bi .all ⟨73, 11, 73, 14⟩ (.cons (.lc (.cmp .In (.var 4 "_law_sign" ⟨73, 16, 73, 25⟩) (.bin .Add (.var 3 "_law_small" ⟨73, 29, 73, 39⟩) (.cstr "0123456789-" 0 ⟨73, 42, 73, 55⟩) ⟨73, 29, 73, 55⟩) ⟨73, 16, 73, 55⟩) (.nm 4 "_law_sign" ⟨73, 60, 73, 69⟩) (.sq (.var 1 "_law_name" ⟨73, 73, 73, 82⟩)) .nil { kind := .function, names := [(".0", .local), ("_law_sign", .local), ("_law_small", .free)], isGenerator := false, isCoroutine := false, more := [] } [("_law_sign", 4)] ⟨73, 15, 73, 83⟩) .nil) ⟨73, 11, 73, 84⟩) (.cons (.bi .all ⟨73, 89, 73, 92⟩ (.cons (.lc (.cmp .In (.var 4 "_law_sign" ⟨73, 94, 73, 103⟩) (.var 3 "_law_small" ⟨73, 107, 73, 117⟩) ⟨73, 94, 73, 117⟩) (.nm 4 "_law_sign" ⟨73, 122, 73, 131⟩) (.sq (.var 2 "_law_home" ⟨73, 135, 73, 144⟩)) .nil { kind := .function, names := [(".0", .local), ("_law_sign", .local), ("_law_small", .free)], isGenerator := false, isCoroutine := false, more := [] } [("_law_sign", 4)] ⟨73, 93, 73, 145⟩) .nil) ⟨73, 89, 73, 146⟩) .nil) ⟨73, 11, 73, 146⟩) ⟨73, 4, 73, 146⟩) .nil))))))
abbrev n__law_is_due : List Str := ["_law_text", "_law_name", "_law_home", "_law_small", "_law_sign"]
abbrev p__law_is_due : List Str := ["_law_text"]
abbrev st__law_is_due : Stmt := topS 21
/-! _law_one -/
def b__law_one : CB := (.cons (.set 1 "_law_due" ⟨75, 4, 75, 12⟩ (.and_ (.bi .isi ⟨75, 15, 75, 25⟩ (.cons (.var 0 "_law_thing" ⟨75, 26, 75, 36⟩) (.cons (.bty "str" "str" ⟨75, 38, 75, 41⟩) .nil)) ⟨75, 15, 75, 42⟩) (.cons (.call N__law_is_due "_law_is_due" ⟨75, 47, 75, 58⟩ (.cons (.var 0 "_law_thing" ⟨75, 59, 75, 69⟩) .nil) ⟨75, 47, 75, 70⟩) .nil) ⟨75, 15, 75, 70⟩) ⟨75, 4, 75, 70⟩) (.cons (.set 2 "_law_told_here" ⟨76, 4, 76, 18⟩ (.lst (.cons (.cbl true 0 ⟨76, 22, 76, 26⟩) (.cons (.cbl true 0 ⟨76, 28, 76, 32⟩) .nil)) ⟨76, 21, 76, 33⟩) ⟨76, 4, 76, 33⟩) (.cons (.ifs (.var 1 "_law_due" ⟨77, 7, 77, 15⟩) (.cons (.set 3 "_law_at" ⟨78, 8, 78, 15⟩ (.mt .index (.var 0 "_law_thing" ⟨78, 18, 78, 28⟩) ⟨78, 18, 78, 34⟩ (.cons (.cstr "@" 0 ⟨78, 35, 78, 38⟩) .nil) ⟨78, 18, 78, 39⟩) ⟨78, 8, 78, 39⟩) (.cons (.set 2 "_law_told_here" ⟨79, 8, 79, 22⟩ (.lst (.cons (.sl (.var 0 "_law_thing" ⟨79, 26, 79, 36⟩) (.so (.bin .Add (.var 3 "_law_at" ⟨79, 37, 79, 44⟩) (.cint 1 0 ⟨79, 47, 79, 48⟩) ⟨79, 37, 79, 48⟩)) .no ⟨79, 37, 79, 49⟩ ⟨79, 26, 79, 50⟩) (.cons (.sl (.var 0 "_law_thing" ⟨79, 52, 79, 62⟩) .no (.so (.var 3 "_law_at" ⟨79, 64, 79, 71⟩)) ⟨79, 63, 79, 71⟩ ⟨79, 52, 79, 72⟩) .nil)) ⟨79, 25, 79, 73⟩) ⟨79, 8, 79, 73⟩) .nil)) .nil ⟨77, 4, 79, 73⟩) (.cons (.set 4 "_law_good" ⟨80, 4, 80, 13⟩ (.call N_is_person "is_person" ⟨80, 16, 80, 25⟩ (.cons (.var 0 "_law_thing" ⟨80, 26, 80, 36⟩) .nil) ⟨80, 16, 80, 37⟩) ⟨80, 4, 80, 37⟩) (.cons (.ret (.and_ (.bi .isi ⟨81, 11, 81, 21⟩ (.cons (.var 4 "_law_good" ⟨81, 22, 81, 31⟩) (.cons (.bty "bool" "bool" ⟨81, 33, 81, 37⟩) .nil)) ⟨81, 11, 81, 38⟩) (.cons (.cmp .Eq (.var 4 "_law_good" ⟨81, 43, 81, 52⟩) (.var 1 "_law_due" ⟨81, 56, 81, 64⟩) ⟨81, 43, 81, 64⟩) (.cons (.cmp .Eq (.call N__law_told "_law_told" ⟨81, 70, 81, 79⟩ (.cons (.var 0 "_law_thing" ⟨81, 80, 81, 90⟩) .nil) ⟨81, 70, 81, 91⟩) (.var 2 "_law_told_here" ⟨81, 95, 81, 109⟩) ⟨81, 70, 81, 109⟩) .nil)) ⟨81, 11, 81, 110⟩) ⟨81, 4, 81, 110⟩) .nil)))))
abbrev n__law_one : List Str := ["_law_thing", "_law_due", "_law_told_here", "_law_at", "_law_good"]
abbrev p__law_one : List Str := ["_law_thing"]
abbrev st__law_one : Stmt := topS 22
/-! law -/
def b_law_0 : CB := (.cons (.ifs (.cmp .IsNot (.call N_is_house "is_house" ⟨92, 15, 92, 23⟩ (.cons (.var 7 "_law_some" ⟨92, 24, 92, 33⟩) .nil) ⟨92, 15, 92, 34⟩) (.cbl false 0 ⟨92, 42, 92, 47⟩) ⟨92, 15, 92, 47⟩) (.cons (.ret (.cbl false 0 ⟨93, 23, 93, 28⟩) ⟨93, 16, 93, 28⟩) .nil) .nil ⟨92, 12, 93, 28⟩) .nil)
def b_law_1 : CB := (.cons (.set 3 "_law_xs" ⟨85, 8, 85, 15⟩ (.call N__law_draws "_law_draws" ⟨85, 18, 85, 28⟩ (.cons (.var 2 "_law_cell" ⟨85, 29, 85, 38⟩) (.cons (.cint 24 0 ⟨85, 40, 85, 42⟩) .nil)) ⟨85, 18, 85, 43⟩) ⟨85, 8, 85, 43⟩) (.cons (.set 4 "_law_home" ⟨86, 8, 86, 17⟩ (.call N__law_word "_law_word" ⟨86, 20, 86, 29⟩ (.cons (.var 3 "_law_xs" ⟨86, 30, 86, 37⟩) (.cons (.cint 0 0 ⟨86, 39, 86, 40⟩) (.cons (.cint 6 0 ⟨86, 42, 86, 43⟩) (.cons (.var 1 "_law_small" ⟨86, 45, 86, 55⟩) .nil)))) ⟨86, 20, 86, 56⟩) ⟨86, 8, 86, 56⟩) (.cons (.set 5 "_law_name" ⟨87, 8, 87, 17⟩ (.call N__law_word "_law_word" ⟨87, 20, 87, 29⟩ (.cons (.var 3 "_law_xs" ⟨87, 30, 87, 37⟩) (.cons (.cint 8 0 ⟨87, 39, 87, 40⟩) (.cons (.cint 8 0 ⟨87, 42, 87, 43⟩) (.cons (.bin .Add (.var 1 "_law_small" ⟨87, 45, 87, 55⟩) (.cstr "0123456789-" 0 ⟨87, 58, 87, 71⟩) ⟨87, 45, 87, 71⟩) .nil)))) ⟨87, 20, 87, 72⟩) ⟨87, 8, 87, 72⟩) (.cons (.set 6 "_law_spoilt_here" ⟨88, 8, 88, 24⟩ (.call N__law_spoilt "_law_spoilt" ⟨88, 27, 88, 38⟩ (.cons (.bin .Add (.bin .Add (.var 5 "_law_name" ⟨88, 39, 88, 48⟩) (.cstr "@" 0 ⟨88, 51, 88, 54⟩) ⟨88, 39, 88, 54⟩) (.var 4 "_law_home" ⟨88, 57, 88, 66⟩) ⟨88, 39, 88, 66⟩) (.cons (.var 3 "_law_xs" ⟨88, 68, 88, 75⟩) .nil)) ⟨88, 27, 88, 76⟩) ⟨88, 8, 88, 76⟩) (.cons (.ifs (.or_ (.not_ (.call N__law_one "_law_one" ⟨89, 15, 89, 23⟩ (.cons (.bin .Add (.bin .Add (.var 5 "_law_name" ⟨89, 24, 89, 33⟩) (.cstr "@" 0 ⟨89, 36, 89, 39⟩) ⟨89, 24, 89, 39⟩) (.var 4 "_law_home" ⟨89, 42, 89, 51⟩) ⟨89, 24, 89, 51⟩) .nil) ⟨89, 15, 89, 52⟩) ⟨89, 11, 89, 52⟩) (.cons (.not_ (.call N__law_one "_law_one" ⟨89, 60, 89, 68⟩ (.cons (.var 6 "_law_spoilt_here" ⟨89, 69, 89, 85⟩) .nil) ⟨89, 60, 89, 86⟩) ⟨89, 56, 89, 86⟩) (.cons (.cmp .IsNot (.call N_is_house "is_house" ⟨89, 90, 89, 98⟩ (.cons (.var 4 "_law_home" ⟨89, 99, 89, 108⟩) .nil) ⟨89, 90, 89, 109⟩) (.cbl true 0 ⟨89, 117, 89, 121⟩) ⟨89, 90, 89, 121⟩) .nil)) ⟨89, 11, 89, 121⟩) (.cons (.ret (.cbl false 0 ⟨90, 19, 90, 24⟩) ⟨90, 12, 90, 24⟩) .nil) .nil ⟨89, 8, 90, 24⟩) (.cons (.for_ (.nm 7 "_law_some" ⟨91, 12, 91, 21⟩) (.sq (.tup (.cons (.bin .Add (.var 4 "_law_home" ⟨91, 26, 91, 35⟩) (.bin .Mult (.ix (.var 1 "_law_small" ⟨91, 38, 91, 48⟩) (.bin .Mod (.ix (.var 3 "_law_xs" ⟨91, 49, 91, 56⟩) (.cint 20 0 ⟨91, 57, 91, 59⟩) ⟨91, 49, 91, 60⟩) (.cint 26 0 ⟨91, 63, 91, 65⟩) ⟨91, 49, 91, 65⟩) ⟨91, 38, 91, 66⟩) (.cint 6 0 ⟨91, 69, 91, 70⟩) ⟨91, 38, 91, 70⟩) ⟨91, 26, 91, 70⟩) (.cons (.bin .Add (.bin .Add (.var 4 "_law_home" ⟨91, 72, 91, 81⟩) (.mt .upper (.ix (.var 5 "_law_name" ⟨91, 84, 91, 93⟩) (.cint 0 0 ⟨91, 94, 91, 95⟩) ⟨91, 84, 91, 96⟩) ⟨91, 84, 91, 102⟩ .nil ⟨91, 84, 91, 104⟩) ⟨91, 72, 91, 104⟩) (.cstr "9" 0 ⟨91, 107, 91, 110⟩) ⟨91, 72, 91, 110⟩) (.cons (.bin .Add (.var 5 "_law_name" ⟨91, 112, 91, 121⟩) (.cstr "@" 0 ⟨91, 124, 91, 127⟩) ⟨91, 112, 91, 127⟩) (.cons (.cstr "" 0 ⟨91, 129, 91, 131⟩) .nil)))) 0 ⟨91, 25, 91, 132⟩)) b_law_0 ⟨91, 8, 93, 28⟩) (.cons (.ifs (.cmp .NotEq (.call N_is_house "is_house" ⟨94, 11, 94, 19⟩ (.cons (.var 6 "_law_spoilt_here" ⟨94, 20, 94, 36⟩) .nil) ⟨94, 11, 94, 37⟩) (.call N__law_is_due "_law_is_due" ⟨94, 41, 94, 52⟩ (.cons (.bin .Add (.cstr "a@" 0 ⟨94, 53, 94, 57⟩) (.var 6 "_law_spoilt_here" ⟨94, 60, 94, 76⟩) ⟨94, 53, 94, 76⟩) .nil) ⟨94, 41, 94, 77⟩) ⟨94, 11, 94, 77⟩) (.cons (.ret (.cbl false 0 ⟨95, 19, 95, 24⟩) ⟨95, 12, 95, 24⟩) .nil) .nil ⟨94, 8, 95, 24⟩) .nil)))))))
def b_law : CB := (.cons (.set 1 "_law_small" ⟨83, 4, 83, 14⟩ (.cstr "abcdefghijklmnopqrstuvwxyz" 0 ⟨83, 17, 83, 45⟩) ⟨83, 4, 83, 45⟩) (.cons (.for_ (.nm 2 "_law_cell" ⟨84, 8, 84, 17⟩) (.sq (.bin .Add (.sl (.var 0 "_law_script" ⟨84, 21, 84, 32⟩) .no (.so (.cint 30 0 ⟨84, 34, 84, 36⟩)) ⟨84, 33, 84, 36⟩ ⟨84, 21, 84, 37⟩) (.lst (.cons (.cint 0 0 ⟨84, 41, 84, 42⟩) .nil) ⟨84, 40, 84, 43⟩) ⟨84, 21, 84, 43⟩)) b_law_1 ⟨84, 4, 95, 24⟩) (.cons (.set 8 "_law_odd" ⟨96, 4, 96, 12⟩ (.lst (.cons (.cnon 0 ⟨96, 16, 96, 20⟩) (.cons (.cint 5 0 ⟨96, 22, 96, 23⟩) (.cons (.cbl true 0 ⟨96, 25, 96, 29⟩) (.cons (.lst (.cons (.cstr "a@b" 0 ⟨96, 32, 96, 37⟩) .nil) ⟨96, 31, 96, 38⟩) (.cons (.tup (.cons (.cstr "a@b" 0 ⟨96, 41, 96, 46⟩) .nil) 0 ⟨96, 40, 96, 48⟩) (.cons (.dnw false ⟨96, 50, 96, 52⟩) (.cons (.cstr "" 0 ⟨96, 54, 96, 56⟩) (.cons (.cstr "@" 0 ⟨96, 58, 96, 61⟩) (.cons (.cstr "a@" 0 ⟨96, 63, 96, 67⟩) (.cons (.cstr "@b" 0 ⟨96, 69, 96, 73⟩) (.cons (.bin .Pow (.cint 10 0 ⟨96, 75, 96, 77⟩) (.cint 30 0 ⟨96, 81, 96, 83⟩) ⟨96, 75, 96, 83⟩) .nil))))))))))) ⟨96, 15, 96, 84⟩) ⟨96, 4, 96, 84⟩) (.cons (.ret (.bi .all ⟨97, 11, 97, 14⟩ (.cons (.lc (.and_ (.call N__law_one "_law_one" ⟨97, 16, 97, 24⟩ (.cons (.var 9 "_law_thing" ⟨97, 25, 97, 35⟩) .nil) ⟨97, 16, 97, 36⟩) (.cons (.cmp .Is (.call N_is_house "is_house" ⟨97, 41, 97, 49⟩ (.cons (.var 9 "_law_thing" ⟨97, 50, 97, 60⟩) .nil) ⟨97, 41, 97, 61⟩) (.cbl false 0 ⟨97, 65, 97, 70⟩) ⟨97, 41, 97, 70⟩) .nil) ⟨97, 16, 97, 70⟩) (.nm 9 "_law_thing" ⟨97, 75, 97, 85⟩) (.sq (.var 8 "_law_odd" ⟨97, 89, 97, 97⟩)) .nil { kind := .function, names := [(".0", .local), ("_law_thing", .local), ("_law_one", .globalImplicit), ("is_house", .globalImplicit)], isGenerator := false, isCoroutine := false, more := [] } [("_law_thing", 9)] ⟨97, 15, 97, 98⟩) .nil) ⟨97, 11, 97, 99⟩) ⟨97, 4, 97, 99⟩) .nil))))
abbrev n_law : List Str := ["_law_script", "_law_small", "_law_cell", "_law_xs", "_law_home", "_law_name", "_law_spoilt_here", "_law_some", "_law_odd", "_law_thing"]
abbrev p_law : List Str := ["_law_script"]
abbrev st_law : Stmt := topS 23
def nm : Nat → Str
  | 0 => "is_of"
  | 1 => "is_house"
  | 2 => "is_person"
  | 3 => "check_person"
  | 4 => "house_of"
  | 5 => "name_of"
  | 6 => "_law_draws"
  | 7 => "_law_told"
  | 8 => "_law_word"
  | 9 => "_law_spoilt"
  | 10 => "_law_is_due"
  | 11 => "_law_one"
  | 12 => "law"
  | _ => ""
abbrev c_LETTERS : Str := "abcdefghijklmnopqrstuvwxyz"
def cst : List (Str × D) := [("LETTERS", (.str "abcdefghijklmnopqrstuvwxyz")), ("SIGNS", (.str (c_LETTERS ++ "0123456789-"))), ("MOST_HOUSE", (.int 6)), ("MOST_NAME", (.int 8))]
def sub : Nat → Nat → Bool
  | 0, 0 => true
  | 1, 0 => true
  | 1, 1 => true
  | 2, 0 => true
  | 2, 2 => true
  | 3, 0 => true
  | 3, 3 => true
  | _, _ => false
def mthL : List (Nat × Str × Nat) := []
def fldL : List (Nat × Str) := []
def iniL : List (Nat × Nat) := []
def xinL : List (Nat × Str × Option Nat) := []
def dflL : List (Nat × Str) := []
def PG : Prog := { fns := [⟨3, 4, b_is_of⟩, ⟨1, 1, b_is_house⟩, ⟨1, 3, b_is_person⟩, ⟨1, 1, b_check_person⟩, ⟨1, 1, b_house_of⟩, ⟨1, 1, b_name_of⟩, ⟨2, 8, b__law_draws⟩, ⟨1, 5, b__law_told⟩, ⟨4, 5, b__law_word⟩, ⟨2, 6, b__law_spoilt⟩, ⟨1, 5, b__law_is_due⟩, ⟨1, 5, b__law_one⟩, ⟨1, 10, b_law⟩], hfs := [], cst := cst, cls := ["BookError", "NoPerson", "NoHouse", "NoPair"], sub := sub, own := [], mth := mthF mthL, ini := iniF iniL, fldOk := fldF fldL, xin := xinF xinL, dfl := dflF dflL }
@[simp] theorem cst_LETTERS : PG.cst[G_LETTERS]? = some (("LETTERS" : Str), ((.str "abcdefghijklmnopqrstuvwxyz") : D)) := rfl
@[simp] theorem cst_SIGNS : PG.cst[G_SIGNS]? = some (("SIGNS" : Str), ((.str (c_LETTERS ++ "0123456789-")) : D)) := rfl
@[simp] theorem cst_MOST_HOUSE : PG.cst[G_MOST_HOUSE]? = some (("MOST_HOUSE" : Str), ((.int 6) : D)) := rfl
@[simp] theorem cst_MOST_NAME : PG.cst[G_MOST_NAME]? = some (("MOST_NAME" : Str), ((.int 8) : D)) := rfl
theorem g_is_of : PG.fns[N_is_of]? = some ⟨3, 4, b_is_of⟩ := rfl
@[simp] theorem gi_is_of : (PG.fns[N_is_of]?).isSome = true := rfl
theorem g_is_house : PG.fns[N_is_house]? = some ⟨1, 1, b_is_house⟩ := rfl
@[simp] theorem gi_is_house : (PG.fns[N_is_house]?).isSome = true := rfl
theorem g_is_person : PG.fns[N_is_person]? = some ⟨1, 3, b_is_person⟩ := rfl
@[simp] theorem gi_is_person : (PG.fns[N_is_person]?).isSome = true := rfl
theorem g_check_person : PG.fns[N_check_person]? = some ⟨1, 1, b_check_person⟩ := rfl
@[simp] theorem gi_check_person : (PG.fns[N_check_person]?).isSome = true := rfl
theorem g_house_of : PG.fns[N_house_of]? = some ⟨1, 1, b_house_of⟩ := rfl
@[simp] theorem gi_house_of : (PG.fns[N_house_of]?).isSome = true := rfl
theorem g_name_of : PG.fns[N_name_of]? = some ⟨1, 1, b_name_of⟩ := rfl
@[simp] theorem gi_name_of : (PG.fns[N_name_of]?).isSome = true := rfl
theorem g__law_draws : PG.fns[N__law_draws]? = some ⟨2, 8, b__law_draws⟩ := rfl
@[simp] theorem gi__law_draws : (PG.fns[N__law_draws]?).isSome = true := rfl
theorem g__law_told : PG.fns[N__law_told]? = some ⟨1, 5, b__law_told⟩ := rfl
@[simp] theorem gi__law_told : (PG.fns[N__law_told]?).isSome = true := rfl
theorem g__law_word : PG.fns[N__law_word]? = some ⟨4, 5, b__law_word⟩ := rfl
@[simp] theorem gi__law_word : (PG.fns[N__law_word]?).isSome = true := rfl
theorem g__law_spoilt : PG.fns[N__law_spoilt]? = some ⟨2, 6, b__law_spoilt⟩ := rfl
@[simp] theorem gi__law_spoilt : (PG.fns[N__law_spoilt]?).isSome = true := rfl
theorem g__law_is_due : PG.fns[N__law_is_due]? = some ⟨1, 5, b__law_is_due⟩ := rfl
@[simp] theorem gi__law_is_due : (PG.fns[N__law_is_due]?).isSome = true := rfl
theorem g__law_one : PG.fns[N__law_one]? = some ⟨1, 5, b__law_one⟩ := rfl
@[simp] theorem gi__law_one : (PG.fns[N__law_one]?).isSome = true := rfl
theorem g_law : PG.fns[N_law]? = some ⟨1, 10, b_law⟩ := rfl
@[simp] theorem gi_law : (PG.fns[N_law]?).isSome = true := rfl
@[simp] theorem cls_BookError : PG.cls[X_BookError]? = some "BookError" := rfl
@[simp] theorem sub_BookError_BookError : PG.sub X_BookError X_BookError = true := rfl
@[simp] theorem sub_BookError_NoPerson : PG.sub X_BookError X_NoPerson = false := rfl
@[simp] theorem sub_BookError_NoHouse : PG.sub X_BookError X_NoHouse = false := rfl
@[simp] theorem sub_BookError_NoPair : PG.sub X_BookError X_NoPair = false := rfl
@[simp] theorem xin_BookError : PG.xin X_BookError = none := by first | rfl | decide +kernel
@[simp] theorem cls_NoPerson : PG.cls[X_NoPerson]? = some "NoPerson" := rfl
@[simp] theorem sub_NoPerson_BookError : PG.sub X_NoPerson X_BookError = true := rfl
@[simp] theorem sub_NoPerson_NoPerson : PG.sub X_NoPerson X_NoPerson = true := rfl
@[simp] theorem sub_NoPerson_NoHouse : PG.sub X_NoPerson X_NoHouse = false := rfl
@[simp] theorem sub_NoPerson_NoPair : PG.sub X_NoPerson X_NoPair = false := rfl
@[simp] theorem xin_NoPerson : PG.xin X_NoPerson = none := by first | rfl | decide +kernel
@[simp] theorem cls_NoHouse : PG.cls[X_NoHouse]? = some "NoHouse" := rfl
@[simp] theorem sub_NoHouse_BookError : PG.sub X_NoHouse X_BookError = true := rfl
@[simp] theorem sub_NoHouse_NoPerson : PG.sub X_NoHouse X_NoPerson = false := rfl
@[simp] theorem sub_NoHouse_NoHouse : PG.sub X_NoHouse X_NoHouse = true := rfl
@[simp] theorem sub_NoHouse_NoPair : PG.sub X_NoHouse X_NoPair = false := rfl
@[simp] theorem xin_NoHouse : PG.xin X_NoHouse = none := by first | rfl | decide +kernel
@[simp] theorem cls_NoPair : PG.cls[X_NoPair]? = some "NoPair" := rfl
@[simp] theorem sub_NoPair_BookError : PG.sub X_NoPair X_BookError = true := rfl
@[simp] theorem sub_NoPair_NoPerson : PG.sub X_NoPair X_NoPerson = false := rfl
@[simp] theorem sub_NoPair_NoHouse : PG.sub X_NoPair X_NoHouse = false := rfl
@[simp] theorem sub_NoPair_NoPair : PG.sub X_NoPair X_NoPair = true := rfl
@[simp] theorem xin_NoPair : PG.xin X_NoPair = none := by first | rfl | decide +kernel
/-! what the text says -/
theorem s_is_of : FnScope n_is_of p_is_of (defScope st_is_of) := ⟨rfl, rfl, rfl, by decide +kernel, rfl, by decide +kernel, by decide +kernel⟩
theorem u_is_of : defBody st_is_of = CB.up b_is_of := by rfl
theorem o_is_of : okB PG nm n_is_of (defScope st_is_of) b_is_of = true := by decide +kernel
theorem s_is_house : FnScope n_is_house p_is_house (defScope st_is_house) := ⟨rfl, rfl, rfl, by decide +kernel, rfl, by decide +kernel, by decide +kernel⟩
theorem u_is_house : defBody st_is_house = CB.up b_is_house := by rfl
theorem o_is_house : okB PG nm n_is_house (defScope st_is_house) b_is_house = true := by decide +kernel
theorem s_is_person : FnScope n_is_person p_is_person (defScope st_is_person) := ⟨rfl, rfl, rfl, by decide +kernel, rfl, by decide +kernel, by decide +kernel⟩
theorem u_is_person : defBody st_is_person = CB.up b_is_person := by rfl
theorem o_is_person : okB PG nm n_is_person (defScope st_is_person) b_is_person = true := by decide +kernel
theorem s_check_person : FnScope n_check_person p_check_person (defScope st_check_person) := ⟨rfl, rfl, rfl, by decide +kernel, rfl, by decide +kernel, by decide +kernel⟩
theorem u_check_person : defBody st_check_person = CB.up b_check_person := by rfl
theorem o_check_person : okB PG nm n_check_person (defScope st_check_person) b_check_person = true := by decide +kernel
theorem s_house_of : FnScope n_house_of p_house_of (defScope st_house_of) := ⟨rfl, rfl, rfl, by decide +kernel, rfl, by decide +kernel, by decide +kernel⟩
theorem u_house_of : defBody st_house_of = CB.up b_house_of := by rfl
theorem o_house_of : okB PG nm n_house_of (defScope st_house_of) b_house_of = true := by decide +kernel
theorem s_name_of : FnScope n_name_of p_name_of (defScope st_name_of) := ⟨rfl, rfl, rfl, by decide +kernel, rfl, by decide +kernel, by decide +kernel⟩
theorem u_name_of : defBody st_name_of = CB.up b_name_of := by rfl
theorem o_name_of : okB PG nm n_name_of (defScope st_name_of) b_name_of = true := by decide +kernel
theorem s__law_draws : FnScope n__law_draws p__law_draws (defScope st__law_draws) := ⟨rfl, rfl, rfl, by decide +kernel, rfl, by decide +kernel, by decide +kernel⟩
theorem u__law_draws : defBody st__law_draws = CB.up b__law_draws := by rfl
theorem o__law_draws : okB PG nm n__law_draws (defScope st__law_draws) b__law_draws = true := by decide +kernel
theorem s__law_told : FnScope n__law_told p__law_told (defScope st__law_told) := ⟨rfl, rfl, rfl, by decide +kernel, rfl, by decide +kernel, by decide +kernel⟩
theorem u__law_told : defBody st__law_told = CB.up b__law_told := by rfl
theorem o__law_told : okB PG nm n__law_told (defScope st__law_told) b__law_told = true := by decide +kernel
theorem s__law_word : FnScope n__law_word p__law_word (defScope st__law_word) := ⟨rfl, rfl, rfl, by decide +kernel, rfl, by decide +kernel, by decide +kernel⟩
theorem u__law_word : defBody st__law_word = CB.up b__law_word := by rfl
theorem o__law_word : okB PG nm n__law_word (defScope st__law_word) b__law_word = true := by decide +kernel
theorem s__law_spoilt : FnScope n__law_spoilt p__law_spoilt (defScope st__law_spoilt) := ⟨rfl, rfl, rfl, by decide +kernel, rfl, by decide +kernel, by decide +kernel⟩
theorem u__law_spoilt : defBody st__law_spoilt = CB.up b__law_spoilt := by rfl
theorem o__law_spoilt : okB PG nm n__law_spoilt (defScope st__law_spoilt) b__law_spoilt = true := by decide +kernel
theorem s__law_is_due : FnScope n__law_is_due p__law_is_due (defScope st__law_is_due) := ⟨rfl, rfl, rfl, by decide +kernel, rfl, by decide +kernel, by decide +kernel⟩
theorem u__law_is_due : defBody st__law_is_due = CB.up b__law_is_due := by rfl
theorem o__law_is_due : okB PG nm n__law_is_due (defScope st__law_is_due) b__law_is_due = true := by decide +kernel
theorem s__law_one : FnScope n__law_one p__law_one (defScope st__law_one) := ⟨rfl, rfl, rfl, by decide +kernel, rfl, by decide +kernel, by decide +kernel⟩
theorem u__law_one : defBody st__law_one = CB.up b__law_one := by rfl
theorem o__law_one : okB PG nm n__law_one (defScope st__law_one) b__law_one = true := by decide +kernel
theorem s_law : FnScope n_law p_law (defScope st_law) := ⟨rfl, rfl, rfl, by decide +kernel, rfl, by decide +kernel, by decide +kernel⟩
theorem u_law : defBody st_law = CB.up b_law := by rfl
theorem o_law : okB PG nm n_law (defScope st_law) b_law = true := by decide +kernel
def tab (f0 f1 f2 f3 f4 f5 f6 f7 f8 f9 f10 f11 f12 C0 C1 C2 C3 : Addr) : Tab := ⟨fun n => match n with
  | 0 => f0
  | 1 => f1
  | 2 => f2
  | 3 => f3
  | 4 => f4
  | 5 => f5
  | 6 => f6
  | 7 => f7
  | 8 => f8
  | 9 => f9
  | 10 => f10
  | 11 => f11
  | 12 => f12
  | _ => 0, fun n => match n with
  | 0 => C0
  | 1 => C1
  | 2 => C2
  | 3 => C3
  | _ => 0, fun n => match n with
  | _ => 0, none⟩
theorem all_mk {l : PySem.W.OpenLaw} {w : World} {K : PySem.W.Frag} {h : Heap} {mg : Str → Option Value} {fa : Addr} (X : K.In h) (G : h.Ns mainGlobals mg) (hfa : mg "law" = some (.ref fa))
    {f0 : Addr} {od0 an0 : Option Addr} {sl0 : Array (Option Value)} {oc0 kV0 dc0 pm0 cd0 ct0 : Value}
    {f1 : Addr} {od1 an1 : Option Addr} {sl1 : Array (Option Value)} {oc1 kV1 dc1 pm1 cd1 ct1 : Value}
    {f2 : Addr} {od2 an2 : Option Addr} {sl2 : Array (Option Value)} {oc2 kV2 dc2 pm2 cd2 ct2 : Value}
    {f3 : Addr} {od3 an3 : Option Addr} {sl3 : Array (Option Value)} {oc3 kV3 dc3 pm3 cd3 ct3 : Value}
    {f4 : Addr} {od4 an4 : Option Addr} {sl4 : Array (Option Value)} {oc4 kV4 dc4 pm4 cd4 ct4 : Value}
    {f5 : Addr} {od5 an5 : Option Addr} {sl5 : Array (Option Value)} {oc5 kV5 dc5 pm5 cd5 ct5 : Value}
    {f6 : Addr} {od6 an6 : Option Addr} {sl6 : Array (Option Value)} {oc6 kV6 dc6 pm6 cd6 ct6 : Value}
    {f7 : Addr} {od7 an7 : Option Addr} {sl7 : Array (Option Value)} {oc7 kV7 dc7 pm7 cd7 ct7 : Value}
    {f8 : Addr} {od8 an8 : Option Addr} {sl8 : Array (Option Value)} {oc8 kV8 dc8 pm8 cd8 ct8 : Value}
    {f9 : Addr} {od9 an9 : Option Addr} {sl9 : Array (Option Value)} {oc9 kV9 dc9 pm9 cd9 ct9 : Value}
    {f10 : Addr} {od10 an10 : Option Addr} {sl10 : Array (Option Value)} {oc10 kV10 dc10 pm10 cd10 ct10 : Value}
    {f11 : Addr} {od11 an11 : Option Addr} {sl11 : Array (Option Value)} {oc11 kV11 dc11 pm11 cd11 ct11 : Value}
    {f12 : Addr} {od12 an12 : Option Addr} {sl12 : Array (Option Value)} {oc12 kV12 dc12 pm12 cd12 ct12 : Value}
    {gt0 : Tok}
    {gt1 : Tok}
    {gt2 : Tok}
    {gt3 : Tok}
    {C0 : Addr}
    {C1 : Addr}
    {C2 : Addr}
    {C3 : Addr}
    (a0 : PySem.W.nsIn K mainGlobals "is_of" = some (some (.ref f0)))
    (l0 : K.lookup f0 = some ⟨oc0, od0, .func (PySem.W.fnOf "is_of" "is_of" (defArgs st_is_of) (defBody st_is_of) (defScope st_is_of) .none kV0 dc0 pm0 an0 cd0 ct0), sl0⟩)
    (c0 : PySem.W.codeIn K cd0 "is_of" = true)
    (k0 : PySem.W.keepIn K (.ref f0) = true)
    (a1 : PySem.W.nsIn K mainGlobals "is_house" = some (some (.ref f1)))
    (l1 : K.lookup f1 = some ⟨oc1, od1, .func (PySem.W.fnOf "is_house" "is_house" (defArgs st_is_house) (defBody st_is_house) (defScope st_is_house) .none kV1 dc1 pm1 an1 cd1 ct1), sl1⟩)
    (c1 : PySem.W.codeIn K cd1 "is_house" = true)
    (k1 : PySem.W.keepIn K (.ref f1) = true)
    (a2 : PySem.W.nsIn K mainGlobals "is_person" = some (some (.ref f2)))
    (l2 : K.lookup f2 = some ⟨oc2, od2, .func (PySem.W.fnOf "is_person" "is_person" (defArgs st_is_person) (defBody st_is_person) (defScope st_is_person) .none kV2 dc2 pm2 an2 cd2 ct2), sl2⟩)
    (c2 : PySem.W.codeIn K cd2 "is_person" = true)
    (k2 : PySem.W.keepIn K (.ref f2) = true)
    (a3 : PySem.W.nsIn K mainGlobals "check_person" = some (some (.ref f3)))
    (l3 : K.lookup f3 = some ⟨oc3, od3, .func (PySem.W.fnOf "check_person" "check_person" (defArgs st_check_person) (defBody st_check_person) (defScope st_check_person) .none kV3 dc3 pm3 an3 cd3 ct3), sl3⟩)
    (c3 : PySem.W.codeIn K cd3 "check_person" = true)
    (k3 : PySem.W.keepIn K (.ref f3) = true)
    (a4 : PySem.W.nsIn K mainGlobals "house_of" = some (some (.ref f4)))
    (l4 : K.lookup f4 = some ⟨oc4, od4, .func (PySem.W.fnOf "house_of" "house_of" (defArgs st_house_of) (defBody st_house_of) (defScope st_house_of) .none kV4 dc4 pm4 an4 cd4 ct4), sl4⟩)
    (c4 : PySem.W.codeIn K cd4 "house_of" = true)
    (k4 : PySem.W.keepIn K (.ref f4) = true)
    (a5 : PySem.W.nsIn K mainGlobals "name_of" = some (some (.ref f5)))
    (l5 : K.lookup f5 = some ⟨oc5, od5, .func (PySem.W.fnOf "name_of" "name_of" (defArgs st_name_of) (defBody st_name_of) (defScope st_name_of) .none kV5 dc5 pm5 an5 cd5 ct5), sl5⟩)
    (c5 : PySem.W.codeIn K cd5 "name_of" = true)
    (k5 : PySem.W.keepIn K (.ref f5) = true)
    (a6 : PySem.W.nsIn K mainGlobals "_law_draws" = some (some (.ref f6)))
    (l6 : K.lookup f6 = some ⟨oc6, od6, .func (PySem.W.fnOf "_law_draws" "_law_draws" (defArgs st__law_draws) (defBody st__law_draws) (defScope st__law_draws) .none kV6 dc6 pm6 an6 cd6 ct6), sl6⟩)
    (c6 : PySem.W.codeIn K cd6 "_law_draws" = true)
    (k6 : PySem.W.keepIn K (.ref f6) = true)
    (a7 : PySem.W.nsIn K mainGlobals "_law_told" = some (some (.ref f7)))
    (l7 : K.lookup f7 = some ⟨oc7, od7, .func (PySem.W.fnOf "_law_told" "_law_told" (defArgs st__law_told) (defBody st__law_told) (defScope st__law_told) .none kV7 dc7 pm7 an7 cd7 ct7), sl7⟩)
    (c7 : PySem.W.codeIn K cd7 "_law_told" = true)
    (k7 : PySem.W.keepIn K (.ref f7) = true)
    (a8 : PySem.W.nsIn K mainGlobals "_law_word" = some (some (.ref f8)))
    (l8 : K.lookup f8 = some ⟨oc8, od8, .func (PySem.W.fnOf "_law_word" "_law_word" (defArgs st__law_word) (defBody st__law_word) (defScope st__law_word) .none kV8 dc8 pm8 an8 cd8 ct8), sl8⟩)
    (c8 : PySem.W.codeIn K cd8 "_law_word" = true)
    (k8 : PySem.W.keepIn K (.ref f8) = true)
    (a9 : PySem.W.nsIn K mainGlobals "_law_spoilt" = some (some (.ref f9)))
    (l9 : K.lookup f9 = some ⟨oc9, od9, .func (PySem.W.fnOf "_law_spoilt" "_law_spoilt" (defArgs st__law_spoilt) (defBody st__law_spoilt) (defScope st__law_spoilt) .none kV9 dc9 pm9 an9 cd9 ct9), sl9⟩)
    (c9 : PySem.W.codeIn K cd9 "_law_spoilt" = true)
    (k9 : PySem.W.keepIn K (.ref f9) = true)
    (a10 : PySem.W.nsIn K mainGlobals "_law_is_due" = some (some (.ref f10)))
    (l10 : K.lookup f10 = some ⟨oc10, od10, .func (PySem.W.fnOf "_law_is_due" "_law_is_due" (defArgs st__law_is_due) (defBody st__law_is_due) (defScope st__law_is_due) .none kV10 dc10 pm10 an10 cd10 ct10), sl10⟩)
    (c10 : PySem.W.codeIn K cd10 "_law_is_due" = true)
    (k10 : PySem.W.keepIn K (.ref f10) = true)
    (a11 : PySem.W.nsIn K mainGlobals "_law_one" = some (some (.ref f11)))
    (l11 : K.lookup f11 = some ⟨oc11, od11, .func (PySem.W.fnOf "_law_one" "_law_one" (defArgs st__law_one) (defBody st__law_one) (defScope st__law_one) .none kV11 dc11 pm11 an11 cd11 ct11), sl11⟩)
    (c11 : PySem.W.codeIn K cd11 "_law_one" = true)
    (k11 : PySem.W.keepIn K (.ref f11) = true)
    (a12 : PySem.W.nsIn K mainGlobals "law" = some (some (.ref f12)))
    (l12 : K.lookup f12 = some ⟨oc12, od12, .func (PySem.W.fnOf "law" "law" (defArgs st_law) (defBody st_law) (defScope st_law) .none kV12 dc12 pm12 an12 cd12 ct12), sl12⟩)
    (c12 : PySem.W.codeIn K cd12 "law" = true)
    (k12 : PySem.W.keepIn K (.ref f12) = true)
    (z_len : PySem.W.nsIn K mainGlobals "len" = some none)
    (z_int : PySem.W.nsIn K mainGlobals "int" = some none)
    (z_str : PySem.W.nsIn K mainGlobals "str" = some none)
    (z_abs : PySem.W.nsIn K mainGlobals "abs" = some none)
    (z_max : PySem.W.nsIn K mainGlobals "max" = some none)
    (z_min : PySem.W.nsIn K mainGlobals "min" = some none)
    (z_sum : PySem.W.nsIn K mainGlobals "sum" = some none)
    (z_all : PySem.W.nsIn K mainGlobals "all" = some none)
    (z_any : PySem.W.nsIn K mainGlobals "any" = some none)
    (z_list : PySem.W.nsIn K mainGlobals "list" = some none)
    (z_tuple : PySem.W.nsIn K mainGlobals "tuple" = some none)
    (z_isinstance : PySem.W.nsIn K mainGlobals "isinstance" = some none)
    (z_ord : PySem.W.nsIn K mainGlobals "ord" = some none)
    (z_sorted : PySem.W.nsIn K mainGlobals "sorted" = some none)
    (z_set : PySem.W.nsIn K mainGlobals "set" = some none)
    (z_range : PySem.W.nsIn K mainGlobals "range" = some none)
    (z_enumerate : PySem.W.nsIn K mainGlobals "enumerate" = some none)
    (z_zip : PySem.W.nsIn K mainGlobals "zip" = some none)
    (z_bool : PySem.W.nsIn K mainGlobals "bool" = some none)
    (z_dict : PySem.W.nsIn K mainGlobals "dict" = some none)
    (z_ValueError : PySem.W.nsIn K mainGlobals "ValueError" = some none)
    (ga0 : PySem.W.nsIn K mainGlobals "LETTERS" = some (some (.str c_LETTERS gt0)))
    (ga1 : PySem.W.nsIn K mainGlobals "SIGNS" = some (some (.str (c_LETTERS ++ "0123456789-") gt1)))
    (ga2 : PySem.W.nsIn K mainGlobals "MOST_HOUSE" = some (some (.int 6 gt2)))
    (ga3 : PySem.W.nsIn K mainGlobals "MOST_NAME" = some (some (.int 8 gt3)))
    (xa0 : PySem.W.nsIn K mainGlobals "BookError" = some (some (.ref C0)))
    (xq0 : PySem.W.excIn K C0 [.type "ValueError", .type "Exception", .type "BaseException", .type "object"] "ValueError.__new__" = true)
    (xk0 : PySem.W.keepIn K (.ref C0) = true)
    (xs0 : PySem.W.subIn K (.ref C0) (.type "BaseException") = some true)
    (xt0 : PySem.W.typeIn K (.ref C0) = some (.type "type"))
    (xg0 : PySem.W.findIn K (.ref C0) "__getattribute__" = some (some (.builtin "BaseException.__getattribute__")))
    (xh0 : PySem.W.findIn K (.ref C0) "__getattr__" = some none)
    (xd0 : PySem.W.hasDictIn K C0 = true)
    (xe0 : PySem.W.findIn K (.ref C0) "__class__" = some (some (.builtin "object.__class__")))
    (xm0 : PySem.W.mroIn K C0 (.type "object") = some true)
    (xi0_v : PySem.W.kitOne K (.ref C0) (.type "ValueError") = some true)
    (xa1 : PySem.W.nsIn K mainGlobals "NoPerson" = some (some (.ref C1)))
    (xq1 : PySem.W.excIn K C1 [.type "ValueError", .type "Exception", .type "BaseException", .type "object"] "ValueError.__new__" = true)
    (xk1 : PySem.W.keepIn K (.ref C1) = true)
    (xs1 : PySem.W.subIn K (.ref C1) (.type "BaseException") = some true)
    (xt1 : PySem.W.typeIn K (.ref C1) = some (.type "type"))
    (xg1 : PySem.W.findIn K (.ref C1) "__getattribute__" = some (some (.builtin "BaseException.__getattribute__")))
    (xh1 : PySem.W.findIn K (.ref C1) "__getattr__" = some none)
    (xd1 : PySem.W.hasDictIn K C1 = true)
    (xe1 : PySem.W.findIn K (.ref C1) "__class__" = some (some (.builtin "object.__class__")))
    (xm1 : PySem.W.mroIn K C1 (.type "object") = some true)
    (xi1_v : PySem.W.kitOne K (.ref C1) (.type "ValueError") = some true)
    (xa2 : PySem.W.nsIn K mainGlobals "NoHouse" = some (some (.ref C2)))
    (xq2 : PySem.W.excIn K C2 [.type "ValueError", .type "Exception", .type "BaseException", .type "object"] "ValueError.__new__" = true)
    (xk2 : PySem.W.keepIn K (.ref C2) = true)
    (xs2 : PySem.W.subIn K (.ref C2) (.type "BaseException") = some true)
    (xt2 : PySem.W.typeIn K (.ref C2) = some (.type "type"))
    (xg2 : PySem.W.findIn K (.ref C2) "__getattribute__" = some (some (.builtin "BaseException.__getattribute__")))
    (xh2 : PySem.W.findIn K (.ref C2) "__getattr__" = some none)
    (xd2 : PySem.W.hasDictIn K C2 = true)
    (xe2 : PySem.W.findIn K (.ref C2) "__class__" = some (some (.builtin "object.__class__")))
    (xm2 : PySem.W.mroIn K C2 (.type "object") = some true)
    (xi2_v : PySem.W.kitOne K (.ref C2) (.type "ValueError") = some true)
    (xa3 : PySem.W.nsIn K mainGlobals "NoPair" = some (some (.ref C3)))
    (xq3 : PySem.W.excIn K C3 [.type "ValueError", .type "Exception", .type "BaseException", .type "object"] "ValueError.__new__" = true)
    (xk3 : PySem.W.keepIn K (.ref C3) = true)
    (xs3 : PySem.W.subIn K (.ref C3) (.type "BaseException") = some true)
    (xt3 : PySem.W.typeIn K (.ref C3) = some (.type "type"))
    (xg3 : PySem.W.findIn K (.ref C3) "__getattribute__" = some (some (.builtin "BaseException.__getattribute__")))
    (xh3 : PySem.W.findIn K (.ref C3) "__getattr__" = some none)
    (xd3 : PySem.W.hasDictIn K C3 = true)
    (xe3 : PySem.W.findIn K (.ref C3) "__class__" = some (some (.builtin "object.__class__")))
    (xm3 : PySem.W.mroIn K C3 (.type "object") = some true)
    (xi3_v : PySem.W.kitOne K (.ref C3) (.type "ValueError") = some true)
    (zn : PySem.W.specialIn K (.builtin "object.__class__") "__get__" = some (some (.builtin "getset_descriptor.__get__")))
    (zt : PySem.W.takesIn K (.builtin "object.__class__") = some true)
    (xp0_0 : PySem.W.subIn K (.ref C0) (.ref C0) = some true)
    (xi0_0 : PySem.W.kitOne K (.ref C0) (.ref C0) = some true)
    (xp0_1 : PySem.W.subIn K (.ref C0) (.ref C1) = some false)
    (xi0_1 : PySem.W.kitOne K (.ref C0) (.ref C1) = some false)
    (xp0_2 : PySem.W.subIn K (.ref C0) (.ref C2) = some false)
    (xi0_2 : PySem.W.kitOne K (.ref C0) (.ref C2) = some false)
    (xp0_3 : PySem.W.subIn K (.ref C0) (.ref C3) = some false)
    (xi0_3 : PySem.W.kitOne K (.ref C0) (.ref C3) = some false)
    (xp1_0 : PySem.W.subIn K (.ref C1) (.ref C0) = some true)
    (xi1_0 : PySem.W.kitOne K (.ref C1) (.ref C0) = some true)
    (xp1_1 : PySem.W.subIn K (.ref C1) (.ref C1) = some true)
    (xi1_1 : PySem.W.kitOne K (.ref C1) (.ref C1) = some true)
    (xp1_2 : PySem.W.subIn K (.ref C1) (.ref C2) = some false)
    (xi1_2 : PySem.W.kitOne K (.ref C1) (.ref C2) = some false)
    (xp1_3 : PySem.W.subIn K (.ref C1) (.ref C3) = some false)
    (xi1_3 : PySem.W.kitOne K (.ref C1) (.ref C3) = some false)
    (xp2_0 : PySem.W.subIn K (.ref C2) (.ref C0) = some true)
    (xi2_0 : PySem.W.kitOne K (.ref C2) (.ref C0) = some true)
    (xp2_1 : PySem.W.subIn K (.ref C2) (.ref C1) = some false)
    (xi2_1 : PySem.W.kitOne K (.ref C2) (.ref C1) = some false)
    (xp2_2 : PySem.W.subIn K (.ref C2) (.ref C2) = some true)
    (xi2_2 : PySem.W.kitOne K (.ref C2) (.ref C2) = some true)
    (xp2_3 : PySem.W.subIn K (.ref C2) (.ref C3) = some false)
    (xi2_3 : PySem.W.kitOne K (.ref C2) (.ref C3) = some false)
    (xp3_0 : PySem.W.subIn K (.ref C3) (.ref C0) = some true)
    (xi3_0 : PySem.W.kitOne K (.ref C3) (.ref C0) = some true)
    (xp3_1 : PySem.W.subIn K (.ref C3) (.ref C1) = some false)
    (xi3_1 : PySem.W.kitOne K (.ref C3) (.ref C1) = some false)
    (xp3_2 : PySem.W.subIn K (.ref C3) (.ref C2) = some false)
    (xi3_2 : PySem.W.kitOne K (.ref C3) (.ref C2) = some false)
    (xp3_3 : PySem.W.subIn K (.ref C3) (.ref C3) = some true)
    (xi3_3 : PySem.W.kitOne K (.ref C3) (.ref C3) = some true)
    (hlaw : ∀ ns : List Int, ns.length ≤ 63 → ∃ st, cal PG 15 N_law [.scr (ns.map .int)] [] = .ok (.va (.bl true)) st) :
    ∃ fd : FuncData, (∀ (s : Shared) (v : Value), BindsTo s fd ⟨[v], []⟩ [("_law_script", v)]) ∧ ∀ base : Heap, K.In base → base.Ns mainGlobals mg → FnOk l.prog w K mg base (L2.CX l.prog w) 31 fa fd ["_law_script"] (BB.spLaw K) := by
  have e := hfa.symm.trans (PySem.W.mg_of X G a12)
  cases e
  have F0 := fun_mk (st := st_is_of) l0 c0 k0
  have B0 := F0.binds (ps := p_is_of) fun _ _ _ _ _ _ us hl => match us, hl with | [_, _, _], _ => rfl
  have E0 : Bdn K (PG.dfl 0) _ p_is_of := .of B0
  have F1 := fun_mk (st := st_is_house) l1 c1 k1
  have B1 := F1.binds (ps := p_is_house) fun _ _ _ _ _ _ us hl => match us, hl with | [_], _ => rfl
  have E1 : Bdn K (PG.dfl 1) _ p_is_house := .of B1
  have F2 := fun_mk (st := st_is_person) l2 c2 k2
  have B2 := F2.binds (ps := p_is_person) fun _ _ _ _ _ _ us hl => match us, hl with | [_], _ => rfl
  have E2 : Bdn K (PG.dfl 2) _ p_is_person := .of B2
  have F3 := fun_mk (st := st_check_person) l3 c3 k3
  have B3 := F3.binds (ps := p_check_person) fun _ _ _ _ _ _ us hl => match us, hl with | [_], _ => rfl
  have E3 : Bdn K (PG.dfl 3) _ p_check_person := .of B3
  have F4 := fun_mk (st := st_house_of) l4 c4 k4
  have B4 := F4.binds (ps := p_house_of) fun _ _ _ _ _ _ us hl => match us, hl with | [_], _ => rfl
  have E4 : Bdn K (PG.dfl 4) _ p_house_of := .of B4
  have F5 := fun_mk (st := st_name_of) l5 c5 k5
  have B5 := F5.binds (ps := p_name_of) fun _ _ _ _ _ _ us hl => match us, hl with | [_], _ => rfl
  have E5 : Bdn K (PG.dfl 5) _ p_name_of := .of B5
  have F6 := fun_mk (st := st__law_draws) l6 c6 k6
  have B6 := F6.binds (ps := p__law_draws) fun _ _ _ _ _ _ us hl => match us, hl with | [_, _], _ => rfl
  have E6 : Bdn K (PG.dfl 6) _ p__law_draws := .of B6
  have F7 := fun_mk (st := st__law_told) l7 c7 k7
  have B7 := F7.binds (ps := p__law_told) fun _ _ _ _ _ _ us hl => match us, hl with | [_], _ => rfl
  have E7 : Bdn K (PG.dfl 7) _ p__law_told := .of B7
  have F8 := fun_mk (st := st__law_word) l8 c8 k8
  have B8 := F8.binds (ps := p__law_word) fun _ _ _ _ _ _ us hl => match us, hl with | [_, _, _, _], _ => rfl
  have E8 : Bdn K (PG.dfl 8) _ p__law_word := .of B8
  have F9 := fun_mk (st := st__law_spoilt) l9 c9 k9
  have B9 := F9.binds (ps := p__law_spoilt) fun _ _ _ _ _ _ us hl => match us, hl with | [_, _], _ => rfl
  have E9 : Bdn K (PG.dfl 9) _ p__law_spoilt := .of B9
  have F10 := fun_mk (st := st__law_is_due) l10 c10 k10
  have B10 := F10.binds (ps := p__law_is_due) fun _ _ _ _ _ _ us hl => match us, hl with | [_], _ => rfl
  have E10 : Bdn K (PG.dfl 10) _ p__law_is_due := .of B10
  have F11 := fun_mk (st := st__law_one) l11 c11 k11
  have B11 := F11.binds (ps := p__law_one) fun _ _ _ _ _ _ us hl => match us, hl with | [_], _ => rfl
  have E11 : Bdn K (PG.dfl 11) _ p__law_one := .of B11
  have F12 := fun_mk (st := st_law) l12 c12 k12
  have B12 := F12.binds (ps := p_law) fun _ _ _ _ _ _ us hl => match us, hl with | [_], _ => rfl
  have E12 : Bdn K (PG.dfl 12) _ p_law := .of B12
  have hm : BB.Mg0 K mg PG nm (tab f0 f1 f2 f3 f4 f5 f6 f7 f8 f9 f10 f11 fa C0 C1 C2 C3) := by
    refine ⟨fun n hn hne => ?_, ⟨fun c x e => ?_, mth_of ?_, fld_of ?_, ini_of ?_⟩, fun b => ?_, PySem.W.mg_none_of X G z_range, PySem.W.mg_none_of X G z_enumerate, PySem.W.mg_none_of X G z_zip, fun n hn => ?_, fun n x d e => ?_, fun n x e => ?_, fun n x e he => ?_, fun P w base => xin_of ?_, fun n q hq => ?_, fun n m x y e1 e2 => ?_, fun n x e => ?_, PySem.W.mg_none_of X G z_ValueError, hot_cases fun i f e => ?_, rfl⟩
    · match n, hn, hne with
      | 0, _, _ => exact PySem.W.mg_of X G a0
      | 1, _, _ => exact PySem.W.mg_of X G a1
      | 2, _, _ => exact PySem.W.mg_of X G a2
      | 3, _, _ => exact PySem.W.mg_of X G a3
      | 4, _, _ => exact PySem.W.mg_of X G a4
      | 5, _, _ => exact PySem.W.mg_of X G a5
      | 6, _, _ => exact PySem.W.mg_of X G a6
      | 7, _, _ => exact PySem.W.mg_of X G a7
      | 8, _, _ => exact PySem.W.mg_of X G a8
      | 9, _, _ => exact PySem.W.mg_of X G a9
      | 10, _, _ => exact PySem.W.mg_of X G a10
      | 11, _, _ => exact PySem.W.mg_of X G a11
      | 12, _, _ => exact PySem.W.mg_of X G a12
      | n + 13, hn, _ => cases hn
    · match c, e with
      | n + 0, e => cases e
    · exact trivial
    · exact trivial
    · exact trivial
    · cases b <;> first | exact PySem.W.mg_none_of X G z_len | exact PySem.W.mg_none_of X G z_int | exact PySem.W.mg_none_of X G z_str | exact PySem.W.mg_none_of X G z_abs | exact PySem.W.mg_none_of X G z_max | exact PySem.W.mg_none_of X G z_min | exact PySem.W.mg_none_of X G z_sum | exact PySem.W.mg_none_of X G z_all | exact PySem.W.mg_none_of X G z_any | exact PySem.W.mg_none_of X G z_list | exact PySem.W.mg_none_of X G z_tuple | exact PySem.W.mg_none_of X G z_isinstance | exact PySem.W.mg_none_of X G z_ord | exact PySem.W.mg_none_of X G z_sorted | exact PySem.W.mg_none_of X G z_set
    · unfold BB.types at hn
      simp only [List.mem_cons, List.not_mem_nil, or_false] at hn
      rcases hn with rfl | rfl | rfl | rfl | rfl | rfl
      · exact PySem.W.mg_none_of X G z_str
      · exact PySem.W.mg_none_of X G z_int
      · exact PySem.W.mg_none_of X G z_bool
      · exact PySem.W.mg_none_of X G z_tuple
      · exact PySem.W.mg_none_of X G z_list
      · exact PySem.W.mg_none_of X G z_dict
    · match n, e with
      | 0, e => cases e; exact ⟨_, .str c_LETTERS, PySem.W.mg_of X G ga0, ⟨_, rfl⟩, fun _ _ => .str _⟩
      | 1, e => cases e; exact ⟨_, .str (c_LETTERS ++ "0123456789-"), PySem.W.mg_of X G ga1, ⟨_, rfl⟩, fun _ _ => .str _⟩
      | 2, e => cases e; exact ⟨_, .int 6, PySem.W.mg_of X G ga2, ⟨_, rfl⟩, fun _ _ => .int _⟩
      | 3, e => cases e; exact ⟨_, .int 8, PySem.W.mg_of X G ga3, ⟨_, rfl⟩, fun _ _ => .int _⟩
      | n + 4, e => cases e
    · match n, e with
      | 0, e => cases e; exact ⟨PySem.W.mg_of X G xa0, xk0, xs0, xt0, xg0, xh0, xs0, xd0, xe0, zn, zt, xm0⟩
      | 1, e => cases e; exact ⟨PySem.W.mg_of X G xa1, xk1, xs1, xt1, xg1, xh1, xs1, xd1, xe1, zn, zt, xm1⟩
      | 2, e => cases e; exact ⟨PySem.W.mg_of X G xa2, xk2, xs2, xt2, xg2, xh2, xs2, xd2, xe2, zn, zt, xm2⟩
      | 3, e => cases e; exact ⟨PySem.W.mg_of X G xa3, xk3, xs3, xt3, xg3, xh3, xs3, xd3, xe3, zn, zt, xm3⟩
      | n + 4, e => cases e
    · match n, e, he with
      | 0, _, _ => exact xq0
      | 1, _, _ => exact xq1
      | 2, _, _ => exact xq2
      | 3, _, _ => exact xq3
      | n + 4, e, _ => cases e
    · exact trivial
    · have h2 := hq
      obtain ⟨f, q⟩ := q
      exact xin_of (L := xinL) (P := fun c _ _ => ∃ y, PG.cls[c]? = some y) trivial n f q hq
    · match n, m, e1, e2 with
      | 0, 0, _, _ => exact ⟨PySem.W.exm_ref xs0 xd0 xt0 xp0_0, xi0_0⟩
      | 0, 1, _, _ => exact ⟨PySem.W.exm_ref xs1 xd1 xt1 xp0_1, xi0_1⟩
      | 0, 2, _, _ => exact ⟨PySem.W.exm_ref xs2 xd2 xt2 xp0_2, xi0_2⟩
      | 0, 3, _, _ => exact ⟨PySem.W.exm_ref xs3 xd3 xt3 xp0_3, xi0_3⟩
      | 1, 0, _, _ => exact ⟨PySem.W.exm_ref xs0 xd0 xt0 xp1_0, xi1_0⟩
      | 1, 1, _, _ => exact ⟨PySem.W.exm_ref xs1 xd1 xt1 xp1_1, xi1_1⟩
      | 1, 2, _, _ => exact ⟨PySem.W.exm_ref xs2 xd2 xt2 xp1_2, xi1_2⟩
      | 1, 3, _, _ => exact ⟨PySem.W.exm_ref xs3 xd3 xt3 xp1_3, xi1_3⟩
      | 2, 0, _, _ => exact ⟨PySem.W.exm_ref xs0 xd0 xt0 xp2_0, xi2_0⟩
      | 2, 1, _, _ => exact ⟨PySem.W.exm_ref xs1 xd1 xt1 xp2_1, xi2_1⟩
      | 2, 2, _, _ => exact ⟨PySem.W.exm_ref xs2 xd2 xt2 xp2_2, xi2_2⟩
      | 2, 3, _, _ => exact ⟨PySem.W.exm_ref xs3 xd3 xt3 xp2_3, xi2_3⟩
      | 3, 0, _, _ => exact ⟨PySem.W.exm_ref xs0 xd0 xt0 xp3_0, xi3_0⟩
      | 3, 1, _, _ => exact ⟨PySem.W.exm_ref xs1 xd1 xt1 xp3_1, xi3_1⟩
      | 3, 2, _, _ => exact ⟨PySem.W.exm_ref xs2 xd2 xt2 xp3_2, xi3_2⟩
      | 3, 3, _, _ => exact ⟨PySem.W.exm_ref xs3 xd3 xt3 xp3_3, xi3_3⟩
      | n + 4, _, e1, _ => cases e1
      | _, m + 4, _, e2 => cases e2
    · match n, e with
      | 0, _ => exact xi0_v
      | 1, _ => exact xi1_v
      | 2, _ => exact xi2_v
      | 3, _ => exact xi3_v
      | n + 4, e => cases e
    · match i, e with
      | i + 0, e => cases e
  have hf : ∀ n f, PG.fns[n]? = some f → BB.FnE K PG nm (tab f0 f1 f2 f3 f4 f5 f6 f7 f8 f9 f10 f11 fa C0 C1 C2 C3) n f := fun n f e => by
    match n, e with
    | 0, e => cases e; exact ⟨_, _, st_is_of, _, n_is_of, p_is_of, .of F0, s_is_of, u_is_of, o_is_of, rfl, rfl, E0⟩
    | 1, e => cases e; exact ⟨_, _, st_is_house, _, n_is_house, p_is_house, .of F1, s_is_house, u_is_house, o_is_house, rfl, rfl, E1⟩
    | 2, e => cases e; exact ⟨_, _, st_is_person, _, n_is_person, p_is_person, .of F2, s_is_person, u_is_person, o_is_person, rfl, rfl, E2⟩
    | 3, e => cases e; exact ⟨_, _, st_check_person, _, n_check_person, p_check_person, .of F3, s_check_person, u_check_person, o_check_person, rfl, rfl, E3⟩
    | 4, e => cases e; exact ⟨_, _, st_house_of, _, n_house_of, p_house_of, .of F4, s_house_of, u_house_of, o_house_of, rfl, rfl, E4⟩
    | 5, e => cases e; exact ⟨_, _, st_name_of, _, n_name_of, p_name_of, .of F5, s_name_of, u_name_of, o_name_of, rfl, rfl, E5⟩
    | 6, e => cases e; exact ⟨_, _, st__law_draws, _, n__law_draws, p__law_draws, .of F6, s__law_draws, u__law_draws, o__law_draws, rfl, rfl, E6⟩
    | 7, e => cases e; exact ⟨_, _, st__law_told, _, n__law_told, p__law_told, .of F7, s__law_told, u__law_told, o__law_told, rfl, rfl, E7⟩
    | 8, e => cases e; exact ⟨_, _, st__law_word, _, n__law_word, p__law_word, .of F8, s__law_word, u__law_word, o__law_word, rfl, rfl, E8⟩
    | 9, e => cases e; exact ⟨_, _, st__law_spoilt, _, n__law_spoilt, p__law_spoilt, .of F9, s__law_spoilt, u__law_spoilt, o__law_spoilt, rfl, rfl, E9⟩
    | 10, e => cases e; exact ⟨_, _, st__law_is_due, _, n__law_is_due, p__law_is_due, .of F10, s__law_is_due, u__law_is_due, o__law_is_due, rfl, rfl, E10⟩
    | 11, e => cases e; exact ⟨_, _, st__law_one, _, n__law_one, p__law_one, .of F11, s__law_one, u__law_one, o__law_one, rfl, rfl, E11⟩
    | 12, e => cases e; exact ⟨_, _, st_law, _, n_law, p_law, .of F12, s_law, u_law, o_law, rfl, rfl, E12⟩
    | n + 13, e => cases e
  refine ⟨PySem.W.fnOf "law" "law" (defArgs st_law) (defBody st_law) (defScope st_law) .none kV12 dc12 pm12 an12 cd12 ct12, fun s v => .of_eq rfl, fun base _ _ => ?_⟩
  exact BB.law_ok (T := tab f0 f1 f2 f3 f4 f5 f6 f7 f8 f9 f10 f11 fa C0 C1 C2 C3) (PG := PG) (n := N_law) (BB.all_ok hm hf 15 N_law _ rfl _ _ st_law _ n_law p_law (.of F12) s_law u_law o_law rfl rfl E12) ⟨_, rfl, rfl⟩ hlaw
end L_k01_people

namespace L_k01_people
open PySem PySem.Spec PyProof.Rows L2 BB
theorem is_of_ok (k : Nat) (x z : Str) (m : Int) (st : Sto) (hx : x.length ≤ 16777216) : cal PG (k + 1) N_is_of [.str x, .int m, .str z] st = .ok (.va (.bl (isOf x m z))) st := by
  rw [cal_s g_is_of rfl]
  simp [b_is_of, hx]
  rw [lc_map (fun c => D.bl (decide (c ∈ cs z)))]
  · unfold isOf
    by_cases h1 : 1 ≤ (x.length : Int) <;> by_cases h2 : (x.length : Int) ≤ m <;> simp [h1, h2, List.all_map, Function.comp_def]
  · intro c hc; simp
  · exact hx
theorem is_house_ok (k : Nat) (x : Str) (st : Sto) (hx : x.length ≤ 16777216) : cal PG (k + 2) N_is_house [.str x] st = .ok (.va (.bl (houseL (cs x)))) st := by
  rw [cal_s g_is_house rfl]
  simp [b_is_house, is_of_ok, hx, isOf_house]
theorem is_person_ok (k : Nat) (x : Str) (st : Sto) (hx : x.length < 16777214) : cal PG (k + 3) N_is_person [.str x] st = .ok (.va (.bl (personL (cs x)))) st := by
  rw [cal_s g_is_person rfl]
  by_cases h : (cs x).count 64 = 1
  · obtain ⟨a, b, h1, h2, h3, h4⟩ := split_two h
    have h5 : (tx a).length ≤ 16777216 := by rw [len_tx]; omega
    have h6 : (tx b).length ≤ 16777216 := by rw [len_tx]; omega
    have h7 : x.length ≤ 16777214 := by omega
    have h8 : ¬ (⟨#[64]⟩ : Str).length = 0 := by decide
    simp [b_is_person, at_lit, count_cs, h, h2, is_of_ok, is_house_ok, h5, h6, h7, h8, isOf_name, personL, h1]
    split <;> simp_all
  · have h9 : ¬ ((List.count 64 (cs x) : Nat) : Int) = 1 := by omega
    simp [b_is_person, at_lit, count_cs, h9, personL_no h]
theorem name_sig {a : List Nat} (h : nameL a = true) : 1 ≤ a.length ∧ a.length ≤ 8 ∧ ∀ s ∈ a, s ∈ SIG := by
  unfold nameL at h
  simp at h
  exact ⟨h.1.1, h.1.2, h.2⟩
theorem house_let {a : List Nat} (h : houseL a = true) : 1 ≤ a.length ∧ a.length ≤ 6 ∧ ∀ s ∈ a, s ∈ LET := by
  unfold houseL at h
  simp at h
  exact ⟨h.1.1, h.1.2, h.2⟩
theorem sig_no : ∀ s ∈ SIG, s ≠ 64 ∧ s ≠ 32 ∧ s ≠ 10 := by decide
theorem let_sig : ∀ s ∈ LET, s ∈ SIG := by decide
/-- the draws -/
def DrawS (c n : Int) (st : Sto) (m : Nat) (s : S) : Prop := ∃ (xs : List Int) (low other rest : Int) (e6 e7 : Slot), xs.length = m ∧ (∀ x ∈ xs, 0 ≤ x ∧ x < 720) ∧ 0 ≤ low ∧ low < 2147483648 ∧ 0 ≤ other ∧ other < 2147485000 ∧
  s = ⟨[.va (.int c), .va (.int n), .ol (xs.map .int), .va (.int low), .va (.int other), .va (.int rest), e6, e7], st⟩
theorem draws_turn (k : Nat) (c n : Int) (st : Sto) (m : Nat) (s : S) (hm : m < 1000) (h : DrawS c n st m s) : ∃ s', forN PG (cal PG k) 6 b__law_draws_0 (.int m) s = .nx s' ∧ DrawS c n st (m + 1) s' := by
  obtain ⟨xs, low, other, rest, e6, e7, hl, hx, h1, h2, h3, h4, rfl⟩ := h
  have hl2 : xs.length < 16777216 := by omega
  simp [b__law_draws_0, app2_s, hl2]
  split
  all_goals
    refine ⟨_, rfl, xs ++ [_], _, _, _, _, _, by rw [List.length_append, hl]; rfl, fun y hy => ?_, ?_, ?_, ?_, ?_, by rw [List.map_append]; rfl⟩
    · rcases List.mem_append.mp hy with hy | hy
      · exact hx y hy
      · cases List.mem_singleton.mp hy; omega
    all_goals omega
theorem draws_ok (k : Nat) (c n : Int) (hn : 0 ≤ n) (hn2 : n < 1000) (st : Sto) :
    ∃ xs : List Int, (xs.length : Int) = n ∧ (∀ x ∈ xs, 0 ≤ x ∧ x < 720) ∧ cal PG (k + 1) N__law_draws [.int c, .int n] st = .ok (.fl (xs.map .int)) st := by
  rw [cal_s g__law_draws rfl]
  have a1 : -4611686018427387904 ≤ n := by omega
  have a2 : n < 4611686018427387904 := by omega
  have a3 : ∀ i : Int, 0 ≤ (if i < 0 then -i else i) := fun i => by split <;> omega
  obtain ⟨q, hq⟩ : ∃ q : Int, q = if 1000000000000000000 ≤ c then 1 else 0 := ⟨_, rfl⟩
  have q1 : -18446744073709551616 < q := by rw [hq]; split <;> omega
  have q2 : q < 18446744073709551616 := by rw [hq]; split <;> omega
  simp [b__law_draws, a1, a2, ← hq, q1, q2]
  obtain ⟨s', e, xs, low, other, rest, e6, e7, hl, hx, h1, h2, h3, h4, rfl⟩ := for_rng (b := forN PG (cal PG k) 6 b__law_draws_0) (DrawS c n st) n.toNat ⟨[.va (.int c), .va (.int n), .ol [], .va (.int ((if c < 0 then -c else c) % 2147483647 + 1)), .va (.int ((if c < 0 then -c else c) % 2147483629 + 7)), .va (.int (c * q)), .no, .no], st⟩
    ⟨[], _, _, _, .no, .no, rfl, (fun _ h => by cases h), by omega, by omega, by omega, by omega, rfl⟩ (fun i s hi p => (draws_turn k c n st i s (by omega) p).imp fun s' h => ⟨.inl h.1, h.2⟩)
  rw [e]
  exact ⟨xs, by omega, hx, by simp⟩

/-! a text of one sign @ -/
theorem cut_at {l : List Nat} (h : l.count 64 = 1) : ∃ a b, l = a ++ 64 :: b ∧ 64 ∉ a ∧ 64 ∉ b := by
  have m : 64 ∈ l := List.count_pos_iff.mp (by omega)
  obtain ⟨a, b, e, n⟩ := List.eq_append_cons_of_mem m
  refine ⟨a, b, e, n, fun z => ?_⟩
  have q := List.count_pos_iff.mpr z
  rw [e, List.count_append, List.count_cons_self] at h
  omega
theorem personL_at {a b : List Nat} (n1 : 64 ∉ a) (n2 : 64 ∉ b) : personL (a ++ 64 :: b) = (nameL a && houseL b) := by
  unfold personL
  rw [splitL_app 64 b a n1, splitL_free 64 b n2]
theorem check_ok (K : Nat) (p : Str) (h : personL (cs p) = true) (hl : p.length < 16777214) (st : Sto) : cal PG (K + 4) N_check_person [.str p] st = .ok (.va .non) st := by
  rw [cal_s g_check_person rfl]; simp [b_check_person, is_person_ok, hl, h]
theorem check_no (K : Nat) (p : Str) (h : personL (cs p) = false) (hl : p.length < 16777214) (st : Sto) : cal PG (K + 4) N_check_person [.str p] st = .ex X_NoPerson [] st := by
  rw [cal_s g_check_person rfl]; simp [b_check_person, is_person_ok, hl, h]
theorem cut_parts {t : Str} {a b : List Nat} (e : cs t = a ++ 64 :: b) : cutS t none (some (a.length : Int)) = tx a ∧ cutS t (some ((a.length : Int) + 1)) none = tx b := by
  constructor
  · have := cutS_to t a.length
    rw [e, List.take_append_of_le_length (Nat.le_refl _), List.take_length] at this
    rw [← tx_cs (cutS t none (some (a.length : Int))), this]
  · have := cutS_from t (a.length + 1)
    rw [e, show a ++ 64 :: b = (a ++ [64]) ++ b by simp, List.drop_append_of_le_length (by simp), show List.drop (a.length + 1) (a ++ [64]) = [] from List.drop_eq_nil_of_le (by simp), List.nil_append] at this
    rw [show ((a.length : Int) + 1) = ((a.length + 1 : Nat) : Int) by omega, ← tx_cs (cutS t (some ((a.length + 1 : Nat) : Int)) none), this]
theorem is_due_ok (K : Nat) (t : Str) (hl : t.length ≤ 1000000) (st : Sto) : cal PG (K + 1) N__law_is_due [.str t] st = .ok (.va (.bl (personL (cs t)))) st := by
  rw [cal_s g__law_is_due rfl]
  by_cases h : (cs t).count 64 = 1
  · obtain ⟨a, b, e, n1, n2⟩ := cut_at h
    have ix := index_sign (p := t) e n1
    obtain ⟨c1, c2⟩ := cut_parts e
    have ll : t.length = a.length + (b.length + 1) := by
      have : t.length = (cs t).length := rfl
      rw [this, e]; simp
    have q1 : t.length ≤ 16777216 := by omega
    have q2 : a.length ≤ 16777216 := by omega
    have q3 : b.length ≤ 16777216 := by omega
    have hp : personL (cs t) = (nameL a && houseL b) := by rw [e]; exact personL_at n1 n2
    rw [hp]
    have lq : (tx a).length = a.length := len_tx a
    have lq2 : (tx b).length = b.length := len_tx b
    obtain ⟨az, ea⟩ : ∃ az : Int, (a.length : Int) = az := ⟨_, rfl⟩
    obtain ⟨bz, eb⟩ : ∃ bz : Int, (b.length : Int) = bz := ⟨_, rfl⟩
    have hA : nameL a = (decide (1 ≤ az) && decide (az ≤ 8) && a.all fun c => decide (c ∈ SIG)) := by
      unfold nameL
      congr 1
      congr 1 <;> exact decide_eq_decide.mpr (by omega)
    have hB : houseL b = (decide (1 ≤ bz) && decide (bz ≤ 6) && b.all fun c => decide (c ∈ LET)) := by
      unfold houseL
      congr 1
      congr 1 <;> exact decide_eq_decide.mpr (by omega)
    rw [hA, hB]
    rw [ea] at ix c1 c2
    have sg : cs (Str.ofString "abcdefghijklmnopqrstuvwxyz" ++ Str.ofString "0123456789-") = SIG := sig_lit
    have l1 : (Str.ofString "abcdefghijklmnopqrstuvwxyz").length + (Str.ofString "0123456789-").length ≤ 16777216 := by decide +kernel
    by_cases p1 : 1 ≤ az
    · by_cases p2 : az ≤ 8
      · by_cases p3 : 1 ≤ bz
        · by_cases p4 : bz ≤ 6
          · simp [b__law_is_due, at_lit, count_cs, h, ix, c1, c2, q1, q2, q3, lq, lq2, ea, eb, p1, p2, p3, p4]
            rw [lc_map (fun c => D.bl (decide (c ∈ SIG)))]
            · by_cases hal : a.all (fun c => decide (c ∈ SIG)) = true
              · simp [hal, bi_all_map]
                rw [lc_map (fun c => D.bl (decide (c ∈ LET)))]
                · simp [bi_all_map]
                · intro c hc; simp [let_lit]
                · omega
              · simp [hal, bi_all_map]
            · intro c hc; simp [sg, l1]
            · omega
          · simp [b__law_is_due, at_lit, count_cs, h, ix, c1, c2, q1, q2, q3, lq, lq2, ea, eb, p1, p2, p3, p4]
        · simp [b__law_is_due, at_lit, count_cs, h, ix, c1, c2, q1, q2, q3, lq, lq2, ea, eb, p1, p2, p3]
      · simp [b__law_is_due, at_lit, count_cs, h, ix, c1, c2, q1, q2, q3, lq, lq2, ea, eb, p1, p2]
    · simp [b__law_is_due, at_lit, count_cs, h, ix, c1, c2, q1, q2, q3, lq, lq2, ea, eb, p1]
  · have h9 : ¬ ((List.count 64 (cs t) : Nat) : Int) = 1 := by omega
    simp [b__law_is_due, at_lit, count_cs, h9, personL_no h]
end L_k01_people

namespace L_k01_people
open PySem PySem.Spec PyProof.Rows L2 BB

theorem strOk_cs {x : Str} : PyData.strOk x = true ↔ ∀ c ∈ cs x, c < 1114112 := by
  show x.cps.all (fun c => decide (c < 0x110000)) = true ↔ _
  rw [← Array.all_toList, List.all_eq_true]
  exact ⟨fun h c hc => of_decide_eq_true (h c hc), fun h c hc => decide_eq_true (h c hc)⟩
/-- what is no person -/
def NotP (d : D) : Prop := (∀ K st, cal PG (K + 3) N_is_person [d] st = .ok (.va (.bl false)) st)
theorem notP_house {d : D} (h : NotP d) (hv : ∀ s, view s (.va d) ≠ none) (K : Nat) (st : Sto) : cal PG (K + 5) N_house_of [d] st = .ex X_NoPerson [] st ∧ cal PG (K + 5) N_name_of [d] st = .ex X_NoPerson [] st := by
  have c : ∀ st, cal PG (K + 4) N_check_person [d] st = .ex X_NoPerson [] st := fun st => by
    rw [cal_s g_check_person rfl]
    simp [b_check_person, h K st]
  constructor
  · rw [cal_s g_house_of rfl]
    simp [b_house_of, c]
  · rw [cal_s g_name_of rfl]
    simp [b_name_of, c]
theorem told_no {d : D} (h : NotP d) (hv : ∀ s, view s (.va d) ≠ none) (K : Nat) (st : Sto) : cal PG (K + 6) N__law_told [d] st = .ok (.fl [.bl true, .bl true]) st := by
  obtain ⟨a, b⟩ := notP_house h hv K st
  have e : eqW (.ls [.bl true, .bl true, .bl false]) (.ls [.bl true, .bl true, .bl false]) = some true := eqW_ls rfl rfl
  have t1 : forN PG (cal PG (K + 5)) 2 b__law_told_0 (.fn N_house_of) ⟨[.va d, .ol [], .no, .no, .no], st⟩ = .nx ⟨[.va d, .ol [.bl true], .va (.fn N_house_of), .no, .va (.lst [.bl true, .bl true, .bl false])], st⟩ := by
    rw [forN_s]
    simp [b__law_told_0, a, e, app2_s]
  have t2 : forN PG (cal PG (K + 5)) 2 b__law_told_0 (.fn N_name_of) ⟨[.va d, .ol [.bl true], .va (.fn N_house_of), .no, .va (.lst [.bl true, .bl true, .bl false])], st⟩ = .nx ⟨[.va d, .ol [.bl true, .bl true], .va (.fn N_name_of), .no, .va (.lst [.bl true, .bl true, .bl false])], st⟩ := by
    rw [forN_s]
    simp [b__law_told_0, b, e, app2_s]
  rw [cal_s g__law_told rfl]
  simp [b__law_told]
  rw [forTurns_cons, t1]
  simp only [nextF_nx]
  rw [forTurns_cons, t2]
  simp
theorem told_ok {p h : Str} {a : List Nat} (e : cs p = a ++ 64 :: cs h) (na : nameL a = true) (hh : houseL (cs h) = true) (K : Nat) (st : Sto) : cal PG (K + 6) N__law_told [.str p] st = .ok (.fl [.str h, .str (tx a)]) st := by
  obtain ⟨x1, x2, x3⟩ := name_sig na
  obtain ⟨y1, y2, y3⟩ := house_let hh
  have n1 : 64 ∉ a := fun m => (sig_no 64 (x3 64 m)).1 rfl
  have n2 : 64 ∉ cs h := fun m => (sig_no 64 (let_sig 64 (y3 64 m))).1 rfl
  have hl : p.length ≤ 15 := by
    have : p.length = (cs p).length := rfl
    rw [this, e]; simp; omega
  have hl2 : p.length < 16777214 := by omega
  have hl3 : p.length ≤ 16777214 := by omega
  have pp : personL (cs p) = true := by rw [e, personL_at n1 n2, na, hh]; rfl
  have c := fun st => check_ok K p pp hl2 st
  have sp : Txt.split p ⟨#[64]⟩ = [tx a, h] := by rw [split_eq, e, splitL_app 64 _ _ n1, splitL_free 64 _ n2]; simp
  have h8 : ¬ (⟨#[64]⟩ : Str).length = 0 := by decide
  have eh : cal PG (K + 5) N_house_of [.str p] st = .ok (.va (.str h)) st := by
    rw [cal_s g_house_of rfl]
    simp [b_house_of, c, hl3, at_lit, h8, sp]
  have en : cal PG (K + 5) N_name_of [.str p] st = .ok (.va (.str (tx a))) st := by
    rw [cal_s g_name_of rfl]
    simp [b_name_of, c, hl3, at_lit, h8, sp]
  rw [cal_s g__law_told rfl]
  simp [b__law_told]
  rw [forTurns_cons]
  simp [b__law_told_0, eh, app2_s]
  rw [forTurns_cons]
  simp [b__law_told_0, en, app2_s]
theorem one_str (K : Nat) (t : Str) (hl : t.length ≤ 1000000) (st : Sto) : cal PG (K + 8) N__law_one [.str t] st = .ok (.va (.bl true)) st := by
  have hl2 : t.length < 16777214 := by omega
  have due := is_due_ok (K + 6) t hl st
  have due : cal PG (K + 7) N__law_is_due [.str t] st = _ := due
  have isp := is_person_ok (K + 4) t st hl2
  have isp : cal PG (K + 7) N_is_person [.str t] st = _ := isp
  rw [cal_s g__law_one rfl]
  cases pp : personL (cs t) with
  | false =>
    rw [pp] at due isp
    have np : NotP (.str t) := fun K st => by rw [is_person_ok K t st hl2, pp]
    have told := told_no np (fun s z => nomatch z) (K + 1) st
    have e : eqW (.ls [.bl true, .bl true]) (.ls [.bl true, .bl true]) = some true := eqW_ls rfl rfl
    simp [b__law_one, due, isp, told, e]
  | true =>
    rw [pp] at due isp
    by_cases h : (cs t).count 64 = 1
    · obtain ⟨a, b, e, n1, n2⟩ := cut_at h
      have hp : (nameL a && houseL b) = true := by rw [← personL_at n1 n2, ← e]; exact pp
      rw [Bool.and_eq_true] at hp
      obtain ⟨c1, c2⟩ := cut_parts e
      have e2 : cs t = a ++ 64 :: cs (tx b) := e
      have told := told_ok e2 hp.1 hp.2 (K + 1) st
      have ix := index_sign (p := t) e n1
      have q1 : t.length ≤ 16777216 := by omega
      have sg : ∀ s ∈ SIG, s < 1114112 := by decide
      have o1 : PyData.strOk (tx a) = true := strOk_cs.mpr fun c hc => sg c ((name_sig hp.1).2.2 c hc)
      have o2 : PyData.strOk (tx b) = true := strOk_cs.mpr fun c hc => sg c (let_sig c ((house_let hp.2).2.2 c hc))
      have ew : eqW (.ls [.str (tx b), .str (tx a)]) (.ls [.str (tx b), .str (tx a)]) = some true := eqW_ls rfl (by simp [okDs, okD, o1, o2])
      obtain ⟨az, ea⟩ : ∃ az : Int, (a.length : Int) = az := ⟨_, rfl⟩
      rw [ea] at ix c1 c2
      simp [b__law_one, due, isp, told, ew, at_lit, ix, c1, c2, q1]
    · rw [personL_no h] at pp; cases pp
/-- of what is no text -/
theorem one_odd {d : D} {v : Vw} {ty : String} (hv : ∀ s, view s (.va d) = some v) (ht : tyW v = some ty) (hs : ty ≠ "str") (hk : isKt (.va d) = false) (np : NotP d) (K : Nat) (st : Sto) : cal PG (K + 8) N__law_one [d] st = .ok (.va (.bl true)) st := by
  have isp : cal PG (K + 7) N_is_person [d] st = _ := np (K + 4) st
  have told := told_no np (fun s z => by rw [hv s] at z; cases z) (K + 1) st
  have e : eqW (.ls [.bl true, .bl true]) (.ls [.bl true, .bl true]) = some true := eqW_ls rfl rfl
  have bi : isi1 (tyW v) "str" = some (.va (.bl false)) := by
    rw [ht]
    simp [hs]
  rw [cal_s g__law_one rfl]
  simp [b__law_one, hv, bi, hk, isp, told, e]
end L_k01_people

namespace L_k01_people
open PySem PySem.Spec PyProof.Rows L2 BB

theorem cs_ones : ∀ l : List Nat, ((l.map fun s : Nat => (⟨#[s]⟩ : Str)).map cs).flatten = l
  | [] => rfl
  | a :: l => by
    have := cs_ones l
    rw [List.map_cons, List.map_cons, List.flatten_cons, this]; rfl
def sg (z : List Nat) (i : Int) : Nat := z.getD i.toNat 0
theorem sg_at {z : List Nat} {i : Int} (h : 0 ≤ i) (h2 : i < z.length) : atI z i = some (sg z i) ∧ sg z i ∈ z := by
  have h3 : i.toNat < z.length := by omega
  rw [atI_of h h2, List.getElem?_eq_getElem h3]
  unfold sg
  rw [List.getD_eq_getElem?_getD, List.getElem?_eq_getElem h3]
  exact ⟨rfl, List.getElem_mem h3⟩
def at_ (xs : List Int) (i : Int) : Int := xs.getD i.toNat 0
theorem at_ok {xs : List Int} {i : Int} (h0 : 0 ≤ i) (h1 : i < xs.length) : atI (xs.map D.int) i = some (.int (at_ xs i)) ∧ at_ xs i ∈ xs := by
  have h3 : i.toNat < xs.length := by omega
  rw [atI_of h0 (by rw [List.length_map]; exact h1), List.getElem?_map, List.getElem?_eq_getElem h3]
  unfold at_
  rw [List.getD_eq_getElem?_getD, List.getElem?_eq_getElem h3]
  exact ⟨rfl, List.getElem_mem h3⟩
theorem word_ok {xs : List Int} (lx : (xs.length : Int) = 24) (hx : ∀ x ∈ xs, 0 ≤ x ∧ x < 720) {k m : Int} (h0 : 0 ≤ k) (hk : k ≤ 8) (hm : 0 < m) (hm2 : m ≤ 8) {z : Str} (hz : 0 < (cs z).length) (hz2 : z.length < 1000) :
    ∃ w : Str, 1 ≤ (cs w).length ∧ (cs w).length ≤ m.toNat ∧ (∀ s ∈ cs w, s ∈ cs z) ∧ ∀ K st, cal PG (K + 1) N__law_word [.lst (xs.map .int), .int k, .int m, .str z] st = .ok (.va (.str w)) st := by
  obtain ⟨e0, m0⟩ := at_ok (xs := xs) h0 (by omega)
  have b1 : 0 ≤ at_ xs k % m := Int.emod_nonneg _ (by omega)
  have b2 : at_ xs k % m < m := Int.emod_lt_of_pos _ hm
  have c1 : -4611686018427387904 ≤ 1 + at_ xs k % m := by omega
  have c2 : 1 + at_ xs k % m < 4611686018427387904 := by omega
  have hz3 : z.length ≤ 16777216 := by omega
  have hz4 : 0 < (z.length : Int) := by have : z.length = (cs z).length := rfl; omega
  have hzl : (z.length : Int) = ((cs z).length : Int) := rfl
  obtain ⟨L, hL⟩ : ∃ L : List Nat, L = (List.range (1 + at_ xs k % m).toNat).map fun j : Nat => sg (cs z) ((at_ xs k + at_ xs (k + 1 + (j : Int))) % (cs z).length) := ⟨_, rfl⟩
  have lL : L.length = (1 + at_ xs k % m).toNat := by rw [hL, List.length_map, List.length_range]
  have sgL : ∀ s ∈ L, s ∈ cs z := fun s hs => by
    rw [hL] at hs
    obtain ⟨j, _, rfl⟩ := List.mem_map.mp hs
    exact (sg_at (Int.emod_nonneg _ (by omega)) (Int.emod_lt_of_pos _ (by omega))).2
  refine ⟨Txt.join (Str.ofString "") (L.map fun s => ⟨#[s]⟩), ?_, ?_, ?_, fun K st => ?_⟩
  · rw [cs_join0, cs_ones]; omega
  · rw [cs_join0, cs_ones]; omega
  · rw [cs_join0, cs_ones]; exact sgL
  · rw [cal_s g__law_word rfl]
    simp [b__law_word, e0, hm, c1, c2, rngD_range]
    rw [lc_map (fun j : Nat => D.str ⟨#[sg (cs z) ((at_ xs k + at_ xs (k + 1 + (j : Int))) % (cs z).length)]⟩)]
    · have e5 : (Str.ofString "").length = 0 := by decide +kernel
      have hs : ∀ l : List Nat, ((l.map fun s : Nat => (⟨#[s]⟩ : Str)).map (·.length)).sum = l.length := fun l => by
        induction l with
        | nil => rfl
        | cons a l ih => rw [List.map_cons, List.map_cons, List.sum_cons, ih]; show 1 + _ = _; rw [List.length_cons]; omega
      have hj := join1_s (a := Str.ofString "") (ys := L.map fun s => (⟨#[s]⟩ : Str)) (by rw [hs, e5, List.length_map]; omega)
      rw [hL, List.map_map] at hj ⊢
      simp only [Function.comp_def] at hj ⊢
      simp [hj]
    · intro j hj
      have hj := List.mem_range.mp hj
      obtain ⟨e1, _⟩ := at_ok (xs := xs) (i := k + 1 + (j : Int)) (by omega) (by omega)
      have b3 : 0 ≤ (at_ xs k + at_ xs (k + 1 + (j : Int))) % (cs z).length := Int.emod_nonneg _ (by omega)
      have b4 : (at_ xs k + at_ xs (k + 1 + (j : Int))) % (cs z).length < (cs z).length := Int.emod_lt_of_pos _ (by omega)
      have e2 := (sg_at b3 b4).1
      obtain ⟨jz, ez⟩ : ∃ jz : Int, (j : Int) = jz := ⟨_, rfl⟩
      rw [ez] at e1 e2 ⊢
      have nz : cs z ≠ [] := List.ne_nil_of_length_pos hz
      simp [e0, e1, hz3, hz4, hzl, e2, nz]
    · rw [List.length_range]; omega
/-! the spoilt text -/
theorem ix_ok {xs : List Int} {i : Nat} (h : i < xs.length) : xs[i]? = some (at_ xs i) ∧ at_ xs i ∈ xs := by
  have e : ((i : Nat) : Int).toNat = i := by omega
  unfold at_
  rw [e, List.getD_eq_getElem?_getD, List.getElem?_eq_getElem h]
  exact ⟨rfl, List.getElem_mem h⟩
theorem cut_le (z : Str) (lo hi : Option Int) : (cutS z lo hi).length ≤ z.length := by
  show (cs (cutS z lo hi)).length ≤ (cs z).length
  rw [cutS_cs]
  rw [List.length_take, List.length_drop]
  exact Nat.le_trans (Nat.min_le_right _ _) (Nat.sub_le _ _)
theorem mul_a (n : Int) : (Txt.mul (Str.ofString "a") n).length = n.toNat := by
  show (cs (Txt.mul (Str.ofString "a") n)).length = _
  rw [cs_mul, show cs (Str.ofString "a") = [97] by decide +kernel]
  simp
theorem spoilt_ok {xs : List Int} (lx : (xs.length : Int) = 24) (hx : ∀ x ∈ xs, 0 ≤ x ∧ x < 720) {t : Str} (lt : t.length ≤ 100) (K : Nat) (st : Sto) : ∃ u : Str, u.length ≤ 2000 ∧ cal PG (K + 1) N__law_spoilt [.str t, .lst (xs.map .int)] st = .ok (.va (.str u)) st := by
  obtain ⟨e20, m20⟩ := ix_ok (xs := xs) (i := 20) (by omega)
  obtain ⟨e21, m21⟩ := ix_ok (xs := xs) (i := 21) (by omega)
  obtain ⟨e22, m22⟩ := ix_ok (xs := xs) (i := 22) (by omega)
  obtain ⟨e23, m23⟩ := ix_ok (xs := xs) (i := 23) (by omega)
  generalize at_ xs (20 : Nat) = x20 at *
  generalize at_ xs (21 : Nat) = x21 at *
  generalize at_ xs (22 : Nat) = x22 at *
  generalize at_ xs (23 : Nat) = x23 at *
  have b20 := hx _ m20
  have b21 := hx _ m21
  have b22 := hx _ m22
  have b23 := hx _ m23
  obtain ⟨l, el⟩ : ∃ l : Int, (t.length : Int) = l := ⟨_, rfl⟩
  obtain ⟨a, ea⟩ : ∃ a : Int, x20 % (l + 1) = a := ⟨_, rfl⟩
  have l1 : 0 < l + 1 := by omega
  obtain ⟨c, ec⟩ : ∃ c, atI (cs (Str.ofString "ABZ_ .,:/+@\"'~!")) (x21 % 15) = some c := by
    have e : (cs (Str.ofString "ABZ_ .,:/+@\"'~!")).length = 15 := by decide +kernel
    exact ⟨_, (sg_at (by omega) (by rw [e]; omega)).1⟩
  have lb : (Str.ofString "ABZ_ .,:/+@\"'~!").length ≤ 16777216 := by decide +kernel
  have le0 : (Str.ofString "").length = 0 := by decide +kernel
  have lr := TK.replace_len t (Str.ofString "@") (Str.ofString "")
  rw [le0] at lr
  have q0 : t.length + (t.length + 1) * (Str.ofString "").length ≤ 16777216 := by rw [le0]; omega
  obtain ⟨r, er⟩ : ∃ r, Txt.replace t (Str.ofString "@") (Str.ofString "") = r := ⟨_, rfl⟩
  rw [er] at lr
  have lr : r.length ≤ 100 := by omega
  have rp : ∀ (e1 e2 e3 e4 e5 : Slot) st, repR 0 (Str.ofString "@") (Str.ofString "") ⟨[.va (.str t), e1, e2, e3, e4, e5], st⟩ = .ok (.va (.str r)) ⟨[.va (.str t), e1, e2, e3, e4, e5], st⟩ := fun e1 e2 e3 e4 e5 st => by
    show (if _ then _ else _) = _
    rw [if_pos q0, er]
  have c1 := cut_le t none (some a)
  have c2 := cut_le t (some a) none
  have c3 := cut_le t (some (a + 1)) none
  obtain ⟨u1, h1⟩ : ∃ u, cutS t none (some a) = u := ⟨_, rfl⟩
  obtain ⟨u2, h2⟩ : ∃ u, cutS t (some a) none = u := ⟨_, rfl⟩
  obtain ⟨u3, h3⟩ : ∃ u, cutS t (some (a + 1)) none = u := ⟨_, rfl⟩
  rw [h1] at c1
  rw [h2] at c2
  rw [h3] at c3
  have lc : (⟨#[c]⟩ : Str).length = 1 := rfl
  have lm := mul_a x22
  have la : (Str.ofString "a").length = 1 := by decide +kernel
  have l11 : (Str.ofString "1").length = 1 := by decide +kernel
  obtain ⟨mu, hmu⟩ : ∃ u, Txt.mul (Str.ofString "a") x22 = u := ⟨_, rfl⟩
  rw [hmu] at lm
  obtain ⟨u, lu, eu⟩ : ∃ u : Str, u.length ≤ 2000 ∧ atI [D.str (u1 ++ (⟨#[c]⟩ : Str) ++ u2), .str (u1 ++ u3), .str r, .str (t ++ t), .str u2, .str u1, .str (t ++ mu), .str (mu ++ t), .str (Str.ofString "1" ++ r)] (x23 % 9) = some (.str u) := by
    have : x23 % 9 = 0 ∨ x23 % 9 = 1 ∨ x23 % 9 = 2 ∨ x23 % 9 = 3 ∨ x23 % 9 = 4 ∨ x23 % 9 = 5 ∨ x23 % 9 = 6 ∨ x23 % 9 = 7 ∨ x23 % 9 = 8 := by omega
    rcases this with h | h | h | h | h | h | h | h | h <;> rw [h]
    · exact ⟨_, by rw [len_app, len_app, lc]; omega, rfl⟩
    · exact ⟨_, by rw [len_app]; omega, rfl⟩
    · exact ⟨_, by omega, rfl⟩
    · exact ⟨_, by rw [len_app]; omega, rfl⟩
    · exact ⟨_, by omega, rfl⟩
    · exact ⟨_, by omega, rfl⟩
    · exact ⟨_, by rw [len_app]; omega, rfl⟩
    · exact ⟨_, by rw [len_app]; omega, rfl⟩
    · exact ⟨_, by rw [len_app, l11]; omega, rfl⟩
  refine ⟨u, lu, ?_⟩
  have q1 : t.length ≤ 16777216 := by omega
  have w1 : u1.length ≤ 16777215 := by omega
  have w2 : u1.length + 1 + u2.length ≤ 16777216 := by omega
  have w3 : u1.length + u3.length ≤ 16777216 := by omega
  have w4 : t.length + t.length ≤ 16777216 := by omega
  have w5 : t.length + mu.length ≤ 16777216 := by omega
  have w6 : mu.length + t.length ≤ 16777216 := by omega
  have w7 : 1 + r.length ≤ 16777216 := by omega
  have y1 : x22 ≤ 16777216 := by omega
  have y2 : x22.toNat ≤ 16777216 := by omega
  rw [cal_s g__law_spoilt rfl]
  simp [b__law_spoilt, e20, e21, e22, e23, el, ea, l1, ec, lb, rp, len_app, lc, la, l11, q1, w1, w2, w3, w4, w5, w6, w7, b22.1, y1, y2, eu, h1, h2, h3, hmu]
end L_k01_people

namespace L_k01_people
open PySem PySem.Spec PyProof.Rows L2 BB

def hd : CB → CS
  | .cons c _ => c
  | .nil => .pass ⟨0, 0, 0, 0⟩
def tl : CB → CB
  | .cons _ cs => cs
  | .nil => .nil
theorem body_sp : b_law_1 = .cons (hd (b_law_1)) (.cons (hd (tl (b_law_1))) (.cons (hd (tl (tl (b_law_1)))) (.cons (hd (tl (tl (tl (b_law_1))))) (.cons (hd (tl (tl (tl (tl (b_law_1)))))) (.cons (hd (tl (tl (tl (tl (tl (b_law_1))))))) (.cons (hd (tl (tl (tl (tl (tl (tl (b_law_1)))))))) (.nil))))))) := rfl

theorem house_long {l : List Nat} (h : 6 < l.length) : houseL l = false := by
  unfold houseL
  rw [decide_eq_false (show ¬ l.length ≤ 6 by omega)]
  simp
theorem house_not {l : List Nat} {c : Nat} (h : c ∈ l) (n : c ∉ LET) : houseL l = false := by
  cases q : houseL l with
  | false => rfl
  | true => exact absurd ((house_let q).2.2 c h) n
theorem personL_a (l : List Nat) : personL (97 :: 64 :: l) = houseL l := by
  have e : (97 :: 64 :: l) = [97] ++ 64 :: l := rfl
  by_cases h : 64 ∈ l
  · rw [house_not h (by decide)]
    refine personL_no fun z => ?_
    have q := List.count_pos_iff.mpr h
    rw [List.count_cons, List.count_cons_self] at z
    simp at z
    omega
  · rw [e, personL_at (by decide) h]
    show (nameL [97] && houseL l) = houseL l
    rw [show nameL [97] = true by decide, Bool.true_and]
theorem bad_house {u : Str} (hl : u.length ≤ 16777216) (h : houseL (cs u) = false) (K : Nat) (a0 a1 a2 a3 a4 a5 a6 e7 : Slot) : forN PG (cal PG (K + 9)) 7 b_law_0 (.str u) ⟨[a0, a1, a2, a3, a4, a5, a6, e7, .no, .no], []⟩ = .nx ⟨[a0, a1, a2, a3, a4, a5, a6, .va (.str u), .no, .no], []⟩ := by
  have e := is_house_ok (K + 7) u [] hl
  rw [h] at e
  rw [forN_s]
  simp [b_law_0, e]
def LS (sc : Slot) (s : S) : Prop := ∃ e2 e3 e4 e5 e6 e7 : Slot, s = ⟨[sc, .va (.str (Str.ofString "abcdefghijklmnopqrstuvwxyz")), e2, e3, e4, e5, e6, e7, .no, .no], []⟩
theorem turn (K : Nat) (sc : Slot) (c : Int) (s : S) (I : LS sc s) : ∃ s', forN PG (cal PG (K + 9)) 2 b_law_1 (.int c) s = .nx s' ∧ LS sc s' := by
  obtain ⟨e2, e3, e4, e5, e6, e7, rfl⟩ := I
  obtain ⟨xs, lx, hx, ed⟩ := draws_ok (K + 8) c 24 (by omega) (by omega) []
  have z1 : cs (Str.ofString "abcdefghijklmnopqrstuvwxyz") = LET := let_lit
  have z2 : cs (Str.ofString "abcdefghijklmnopqrstuvwxyz" ++ Str.ofString "0123456789-") = SIG := sig_lit
  obtain ⟨home, h1, h2, h3, eh⟩ := word_ok lx hx (k := 0) (m := 6) (z := Str.ofString "abcdefghijklmnopqrstuvwxyz") (by omega) (by omega) (by omega) (by omega) (by rw [z1]; decide) (by decide +kernel)
  obtain ⟨name, n1, n2, n3, en⟩ := word_ok lx hx (k := 8) (m := 8) (z := Str.ofString "abcdefghijklmnopqrstuvwxyz" ++ Str.ofString "0123456789-") (by omega) (by omega) (by omega) (by omega) (by rw [z2]; decide) (by decide +kernel)
  rw [z1] at h3
  rw [z2] at n3
  have eh := eh (K + 8) []
  have en := en (K + 8) []
  have lh : home.length = (cs home).length := rfl
  have lnm : name.length = (cs name).length := rfl
  have h2 : (cs home).length ≤ 6 := h2
  have n2 : (cs name).length ≤ 8 := n2
  have hh : houseL (cs home) = true := by
    unfold houseL
    rw [decide_eq_true h1, decide_eq_true h2]
    simp only [Bool.true_and, List.all_eq_true]
    exact fun s hs => decide_eq_true (h3 s hs)
  have lat : (Str.ofString "@").length = 1 := by decide +kernel
  obtain ⟨p, hp⟩ : ∃ p, name ++ Str.ofString "@" ++ home = p := ⟨_, rfl⟩
  have lp : p.length ≤ 15 := by rw [← hp, len_app, len_app, lat]; omega
  obtain ⟨u, lu, eu⟩ := spoilt_ok lx hx (t := p) (by omega) (K + 8) []
  have one1 := one_str (K + 1) p (by omega) []
  have one2 := one_str (K + 1) u (by omega) []
  have ih := is_house_ok (K + 7) home [] (by omega)
  rw [hh] at ih
  have ihu := is_house_ok (K + 7) u [] (by omega)
  have la2 : (Str.ofString "a@").length = 2 := by decide +kernel
  have due := is_due_ok (K + 8) (Str.ofString "a@" ++ u) (by rw [len_app, la2]; omega) []
  rw [cs_app, show cs (Str.ofString "a@") = [97, 64] by decide +kernel, show [97, 64] ++ cs u = 97 :: 64 :: cs u from rfl, personL_a] at due
  -- the four texts
  obtain ⟨x20, m20⟩ := ix_ok (xs := xs) (i := 20) (by omega)
  have b20 := hx _ m20
  generalize at_ xs (20 : Nat) = y20 at *
  obtain ⟨c6, ec6⟩ : ∃ c, atI LET (y20 % 26) = some c := ⟨_, (sg_at (by omega) (by show _ < (26 : Int); omega)).1⟩
  obtain ⟨c0, ec0, mc0⟩ : ∃ c, (cs name)[0]? = some c ∧ c ∈ SIG := ⟨_, List.getElem?_eq_getElem (by omega), n3 _ (List.getElem_mem _)⟩
  have lm6 : (Txt.mul (⟨#[c6]⟩ : Str) 6).length = 6 := by
    show (cs (Txt.mul (⟨#[c6]⟩ : Str) 6)).length = 6
    rw [cs_mul]; rfl
  have up : ∀ c ∈ SIG, (Txt.upper ⟨#[c]⟩).length ≤ 3 := by decide +kernel
  have lup := up c0 mc0
  have l9 : (Str.ofString "9").length = 1 := by decide +kernel
  obtain ⟨v1, hv1⟩ : ∃ v, home ++ Txt.mul (⟨#[c6]⟩ : Str) 6 = v := ⟨_, rfl⟩
  obtain ⟨v2, hv2⟩ : ∃ v, home ++ Txt.upper ⟨#[c0]⟩ ++ Str.ofString "9" = v := ⟨_, rfl⟩
  obtain ⟨v3, hv3⟩ : ∃ v, name ++ Str.ofString "@" = v := ⟨_, rfl⟩
  have k1 : v1.length ≤ 16777216 ∧ houseL (cs v1) = false := by
    have : v1.length = home.length + 6 := by rw [← hv1, len_app, lm6]
    exact ⟨by omega, house_long (by show 6 < v1.length; omega)⟩
  have k2 : v2.length ≤ 16777216 ∧ houseL (cs v2) = false := by
    refine ⟨by rw [← hv2, len_app, len_app, l9]; omega, house_not (c := 57) ?_ (by decide)⟩
    rw [← hv2, cs_app]
    exact List.mem_append_right _ (by rw [show cs (Str.ofString "9") = [57] by decide +kernel]; exact List.mem_singleton.mpr rfl)
  have k3 : v3.length ≤ 16777216 ∧ houseL (cs v3) = false := by
    refine ⟨by rw [← hv3, len_app, lat]; omega, house_not (c := 64) ?_ (by decide)⟩
    rw [← hv3, cs_app]
    exact List.mem_append_right _ (by rw [show cs (Str.ofString "@") = [64] by decide +kernel]; exact List.mem_singleton.mpr rfl)
  have k4 : (Str.ofString "").length ≤ 16777216 ∧ houseL (cs (Str.ofString "")) = false := by decide +kernel
  have q1 : name.length ≤ 16777215 := by omega
  have q2 : name.length + 1 + home.length ≤ 16777216 := by omega
  have q3 : home.length + 6 ≤ 16777216 := by omega
  have q3' : home.length ≤ 16777210 := by omega
  have q4 : home.length + (Txt.upper ⟨#[c0]⟩).length ≤ 16777216 := by omega
  have q5 : home.length + (Txt.upper ⟨#[c0]⟩).length ≤ 16777215 := by omega
  have q6 : 2 + u.length ≤ 16777216 := by omega
  have q7 : name.length ≤ 16777216 := by omega
  have lc : (⟨#[c6]⟩ : Str).length = 1 := rfl
  have lc0 : (⟨#[c0]⟩ : Str).length = 1 := rfl
  have l26 : (Str.ofString "abcdefghijklmnopqrstuvwxyz").length ≤ 16777216 := by decide +kernel
  have lsum : (Str.ofString "abcdefghijklmnopqrstuvwxyz").length + (Str.ofString "0123456789-").length ≤ 16777216 := by decide +kernel
  have s0 : exs PG (cal PG (K + 9)) (hd b_law_1) ⟨[sc, .va (.str (Str.ofString "abcdefghijklmnopqrstuvwxyz")), .va (.int c), e3, e4, e5, e6, e7, .no, .no], []⟩ = .nx ⟨[sc, .va (.str (Str.ofString "abcdefghijklmnopqrstuvwxyz")), .va (.int c), .va (.lst (xs.map .int)), e4, e5, e6, e7, .no, .no], []⟩ := by
    simp [b_law_1, hd, tl, ed]
  have s1 : exs PG (cal PG (K + 9)) (hd (tl (b_law_1))) ⟨[sc, .va (.str (Str.ofString "abcdefghijklmnopqrstuvwxyz")), .va (.int c), .va (.lst (xs.map .int)), e4, e5, e6, e7, .no, .no], []⟩ = .nx ⟨[sc, .va (.str (Str.ofString "abcdefghijklmnopqrstuvwxyz")), .va (.int c), .va (.lst (xs.map .int)), .va (.str home), e5, e6, e7, .no, .no], []⟩ := by
    simp [b_law_1, hd, tl, eh]
  have s2 : exs PG (cal PG (K + 9)) (hd (tl (tl (b_law_1)))) ⟨[sc, .va (.str (Str.ofString "abcdefghijklmnopqrstuvwxyz")), .va (.int c), .va (.lst (xs.map .int)), .va (.str home), e5, e6, e7, .no, .no], []⟩ = .nx ⟨[sc, .va (.str (Str.ofString "abcdefghijklmnopqrstuvwxyz")), .va (.int c), .va (.lst (xs.map .int)), .va (.str home), .va (.str name), e6, e7, .no, .no], []⟩ := by
    simp [b_law_1, hd, tl, en, lsum]
  have s3 : exs PG (cal PG (K + 9)) (hd (tl (tl (tl (b_law_1))))) ⟨[sc, .va (.str (Str.ofString "abcdefghijklmnopqrstuvwxyz")), .va (.int c), .va (.lst (xs.map .int)), .va (.str home), .va (.str name), e6, e7, .no, .no], []⟩ = .nx ⟨[sc, .va (.str (Str.ofString "abcdefghijklmnopqrstuvwxyz")), .va (.int c), .va (.lst (xs.map .int)), .va (.str home), .va (.str name), .va (.str u), e7, .no, .no], []⟩ := by
    simp [b_law_1, hd, tl, lat, len_app, q1, q2, hp, eu]
  have s4 : exs PG (cal PG (K + 9)) (hd (tl (tl (tl (tl (b_law_1)))))) ⟨[sc, .va (.str (Str.ofString "abcdefghijklmnopqrstuvwxyz")), .va (.int c), .va (.lst (xs.map .int)), .va (.str home), .va (.str name), .va (.str u), e7, .no, .no], []⟩ = .nx ⟨[sc, .va (.str (Str.ofString "abcdefghijklmnopqrstuvwxyz")), .va (.int c), .va (.lst (xs.map .int)), .va (.str home), .va (.str name), .va (.str u), e7, .no, .no], []⟩ := by
    simp [b_law_1, hd, tl, lat, len_app, q1, q2, hp, one1, one2, ih]
  have s5 : exs PG (cal PG (K + 9)) (hd (tl (tl (tl (tl (tl (b_law_1))))))) ⟨[sc, .va (.str (Str.ofString "abcdefghijklmnopqrstuvwxyz")), .va (.int c), .va (.lst (xs.map .int)), .va (.str home), .va (.str name), .va (.str u), e7, .no, .no], []⟩ = .nx ⟨[sc, .va (.str (Str.ofString "abcdefghijklmnopqrstuvwxyz")), .va (.int c), .va (.lst (xs.map .int)), .va (.str home), .va (.str name), .va (.str u), .va (.str (Str.ofString "")), .no, .no], []⟩ := by
    have f : forTurns (forN PG (cal PG (K + 9)) 7 b_law_0) [.str v1, .str v2, .str v3, .str (Str.ofString "")] ⟨[sc, .va (.str (Str.ofString "abcdefghijklmnopqrstuvwxyz")), .va (.int c), .va (.lst (xs.map .int)), .va (.str home), .va (.str name), .va (.str u), e7, .no, .no], []⟩ = .nx ⟨[sc, .va (.str (Str.ofString "abcdefghijklmnopqrstuvwxyz")), .va (.int c), .va (.lst (xs.map .int)), .va (.str home), .va (.str name), .va (.str u), .va (.str (Str.ofString "")), .no, .no], []⟩ := by
      rw [forTurns_cons, bad_house k1.1 k1.2, nextF_nx, forTurns_cons, bad_house k2.1 k2.2, nextF_nx, forTurns_cons, bad_house k3.1 k3.2, nextF_nx, forTurns_cons, bad_house k4.1 k4.2, nextF_nx, forTurns_nil]
    simp [b_law_1, hd, tl, x20, let_lit, l26, ec6, ec0, lc, lc0, lm6, lat, l9, len_app, q1, q3, q3', q4, q5, q7, hv1, hv2, hv3]
    exact f
  have s6 : exs PG (cal PG (K + 9)) (hd (tl (tl (tl (tl (tl (tl (b_law_1)))))))) ⟨[sc, .va (.str (Str.ofString "abcdefghijklmnopqrstuvwxyz")), .va (.int c), .va (.lst (xs.map .int)), .va (.str home), .va (.str name), .va (.str u), .va (.str (Str.ofString "")), .no, .no], []⟩ = .nx ⟨[sc, .va (.str (Str.ofString "abcdefghijklmnopqrstuvwxyz")), .va (.int c), .va (.lst (xs.map .int)), .va (.str home), .va (.str name), .va (.str u), .va (.str (Str.ofString "")), .no, .no], []⟩ := by
    simp [b_law_1, hd, tl, ihu, la2, len_app, q6, due]
  refine ⟨_, ?_, .va (.int c), .va (.lst (xs.map .int)), .va (.str home), .va (.str name), .va (.str u), .va (.str (Str.ofString "")), rfl⟩
  rw [forN_s]
  show exb PG (cal PG (K + 9)) b_law_1 ⟨[sc, .va (.str (Str.ofString "abcdefghijklmnopqrstuvwxyz")), .va (.int c), e3, e4, e5, e6, e7, .no, .no], []⟩ = _
  rw [body_sp, exb_cons, s0, seqF_nx, exb_cons, s1, seqF_nx, exb_cons, s2, seqF_nx, exb_cons, s3, seqF_nx, exb_cons, s4, seqF_nx, exb_cons, s5, seqF_nx, exb_cons, s6, seqF_nx]
  rfl
theorem odd_ok (K : Nat) (t : Str) (hl : t.length ≤ 1000) (h : houseL (cs t) = false) : cal PG (K + 9) N__law_one [.str t] [] = .ok (.va (.bl true)) [] ∧ cal PG (K + 9) N_is_house [.str t] [] = .ok (.va (.bl false)) [] := by
  refine ⟨one_str (K + 1) t (by omega) [], ?_⟩
  have := is_house_ok (K + 7) t [] (by omega)
  rw [h] at this
  exact this
theorem odd_no {d : D} {v : Vw} {ty : String} (hv : ∀ s, view s (.va d) = some v) (ht : tyW v = some ty) (hs : ty ≠ "str") (hk : isKt (.va d) = false) (K : Nat) : cal PG (K + 9) N__law_one [d] [] = .ok (.va (.bl true)) [] ∧ cal PG (K + 9) N_is_house [d] [] = .ok (.va (.bl false)) [] := by
  have bi : isi1 (tyW v) "str" = some (.va (.bl false)) := by
    rw [ht]
    simp [hs]
  have np : NotP d := fun K st => by
    rw [cal_s g_is_person rfl]
    simp [b_is_person, hv, bi, hk]
  refine ⟨one_odd hv ht hs hk np (K + 1) [], ?_⟩
  rw [cal_s g_is_house rfl]
  simp [b_is_house, hv, bi, hk]
theorem law_run (ns : List Int) (hn : ns.length ≤ 63) (K : Nat) : ∃ st, cal PG (K + 10) N_law [.scr (ns.map .int)] [] = .ok (.va (.bl true)) st := by
  obtain ⟨sA, eA, e2, e3, e4, e5, e6, e7, rfl⟩ := for_all (b := forN PG (cal PG (K + 9)) 2 b_law_1) (LS (.va (.scr (ns.map .int)))) (List.take 30 (ns.map D.int) ++ [.int 0]) ⟨[.va (.scr (ns.map .int)), .va (.str (Str.ofString "abcdefghijklmnopqrstuvwxyz")), .no, .no, .no, .no, .no, .no, .no, .no], []⟩
    ⟨_, _, _, _, _, _, rfl⟩ (fun d hd s I => by
      obtain ⟨c, rfl⟩ : ∃ c, d = .int c := by
        rcases List.mem_append.mp hd with q | q
        · obtain ⟨c, _, rfl⟩ := List.mem_map.mp (List.mem_of_mem_take q)
          exact ⟨c, rfl⟩
        · exact ⟨0, List.mem_singleton.mp q⟩
      obtain ⟨s', e, J⟩ := turn K _ c s I
      exact ⟨s', .inl e, J⟩)
  have o1 := odd_no (d := .non) (fun s => rfl) rfl (by decide) rfl K
  have o2 := odd_no (d := .int 5) (fun s => rfl) rfl (by decide) rfl K
  have o3 := odd_no (d := .bl true) (fun s => rfl) rfl (by decide) rfl K
  have o4 := odd_no (d := .lst [.str (Str.ofString "a@b")]) (fun s => rfl) rfl (by decide) rfl K
  have o5 := odd_no (d := .tup [.str (Str.ofString "a@b")]) (fun s => rfl) rfl (by decide) rfl K
  have o6 := odd_no (d := .dct false []) (fun s => rfl) rfl (by decide) rfl K
  have o7 := odd_ok K (Str.ofString "") (by decide +kernel) (by decide +kernel)
  have o8 := odd_ok K (Str.ofString "@") (by decide +kernel) (by decide +kernel)
  have o9 := odd_ok K (Str.ofString "a@") (by decide +kernel) (by decide +kernel)
  have oa := odd_ok K (Str.ofString "@b") (by decide +kernel) (by decide +kernel)
  have ob := odd_no (d := .int 1000000000000000000000000000000) (fun s => rfl) rfl (by decide) rfl K
  refine ⟨[], ?_⟩
  have ll : min 30 ns.length ≤ 16777215 := by omega
  rw [cal_s g_law rfl]
  simp [b_law, ll]
  rw [eA]
  simp
  rw [lc_id (fun _ => .bl true)]
  · simp
  · intro a ha
    simp only [List.mem_cons, List.not_mem_nil, or_false] at ha
    rcases ha with rfl | rfl | rfl | rfl | rfl | rfl | rfl | rfl | rfl | rfl | rfl <;> simp [o1, o2, o3, o4, o5, o6, o7, o8, o9, oa, ob]
  · simp
theorem law_holds (ns : List Int) (hn : ns.length ≤ 63) : ∃ st, cal PG 15 N_law [.scr (ns.map .int)] [] = .ok (.va (.bl true)) st := law_run ns hn 5
end L_k01_people

open PySem PySem.W PyProof.Rows
set_option maxHeartbeats 0 in
theorem PySem.Challenge.cw_bothbooks_k01_people_holds : PySem.Challenge.rw_bothbooks_k01_people.Holds := by
  refine both_head ?_
  k_fill
  refine BB.walk (l := PySem.Challenge.rw_bothbooks_k01_people) (k := 31) rfl rfl ⟨rfl, by decide, by decide⟩ (fun w h Y => PySem.W.kIn_of Y) ?F
  case F =>
    intro w mg fa h KX G hmg
    refine' L_k01_people.all_mk KX G hmg ?a0 ?l0 ?c0 ?k0 ?a1 ?l1 ?c1 ?k1 ?a2 ?l2 ?c2 ?k2 ?a3 ?l3 ?c3 ?k3 ?a4 ?l4 ?c4 ?k4 ?a5 ?l5 ?c5 ?k5 ?a6 ?l6 ?c6 ?k6 ?a7 ?l7 ?c7 ?k7 ?a8 ?l8 ?c8 ?k8 ?a9 ?l9 ?c9 ?k9 ?a10 ?l10 ?c10 ?k10 ?a11 ?l11 ?c11 ?k11 ?a12 ?l12 ?c12 ?k12 ?z_len ?z_int ?z_str ?z_abs ?z_max ?z_min ?z_sum ?z_all ?z_any ?z_list ?z_tuple ?z_isinstance ?z_ord ?z_sorted ?z_set ?z_range ?z_enumerate ?z_zip ?z_bool ?z_dict ?z_ValueError ?ga0 ?ga1 ?ga2 ?ga3 ?xa0 ?xq0 ?xk0 ?xs0 ?xt0 ?xg0 ?xh0 ?xd0 ?xe0 ?xm0 ?xi0_v ?xa1 ?xq1 ?xk1 ?xs1 ?xt1 ?xg1 ?xh1 ?xd1 ?xe1 ?xm1 ?xi1_v ?xa2 ?xq2 ?xk2 ?xs2 ?xt2 ?xg2 ?xh2 ?xd2 ?xe2 ?xm2 ?xi2_v ?xa3 ?xq3 ?xk3 ?xs3 ?xt3 ?xg3 ?xh3 ?xd3 ?xe3 ?xm3 ?xi3_v ?zn ?zt ?xp0_0 ?xi0_0 ?xp0_1 ?xi0_1 ?xp0_2 ?xi0_2 ?xp0_3 ?xi0_3 ?xp1_0 ?xi1_0 ?xp1_1 ?xi1_1 ?xp1_2 ?xi1_2 ?xp1_3 ?xi1_3 ?xp2_0 ?xi2_0 ?xp2_1 ?xi2_1 ?xp2_2 ?xi2_2 ?xp2_3 ?xi2_3 ?xp3_0 ?xi3_0 ?xp3_1 ?xi3_1 ?xp3_2 ?xi3_2 ?xp3_3 ?xi3_3 ?hlaw
    (case a0 => k_is); (case l0 => k_is); (case c0 => k_is); (case k0 => k_is); (case a1 => k_is); (case l1 => k_is); (case c1 => k_is); (case k1 => k_is); (case a2 => k_is); (case l2 => k_is); (case c2 => k_is); (case k2 => k_is); (case a3 => k_is); (case l3 => k_is); (case c3 => k_is); (case k3 => k_is); (case a4 => k_is); (case l4 => k_is); (case c4 => k_is); (case k4 => k_is); (case a5 => k_is); (case l5 => k_is); (case c5 => k_is); (case k5 => k_is); (case a6 => k_is); (case l6 => k_is); (case c6 => k_is); (case k6 => k_is); (case a7 => k_is); (case l7 => k_is); (case c7 => k_is); (case k7 => k_is); (case a8 => k_is); (case l8 => k_is); (case c8 => k_is); (case k8 => k_is); (case a9 => k_is); (case l9 => k_is); (case c9 => k_is); (case k9 => k_is); (case a10 => k_is); (case l10 => k_is); (case c10 => k_is); (case k10 => k_is); (case a11 => k_is); (case l11 => k_is); (case c11 => k_is); (case k11 => k_is); (case a12 => k_is); (case l12 => k_is); (case c12 => k_is); (case k12 => k_is); (case z_len => k_is); (case z_int => k_is); (case z_str => k_is); (case z_abs => k_is); (case z_max => k_is); (case z_min => k_is); (case z_sum => k_is); (case z_all => k_is); (case z_any => k_is); (case z_list => k_is); (case z_tuple => k_is); (case z_isinstance => k_is); (case z_ord => k_is); (case z_sorted => k_is); (case z_set => k_is); (case z_range => k_is); (case z_enumerate => k_is); (case z_zip => k_is); (case z_bool => k_is); (case z_dict => k_is); (case z_ValueError => k_is); (case ga0 => k_is); (case ga1 => k_is); (case ga2 => k_is); (case ga3 => k_is); (case xa0 => k_is); (case xq0 => k_exc); (case xk0 => k_is); (case xs0 => k_is); (case xt0 => k_is); (case xg0 => k_is); (case xh0 => k_is); (case xd0 => k_is); (case xe0 => k_is); (case xm0 => k_is); (case xi0_v => kit_is); (case xa1 => k_is); (case xq1 => k_exc); (case xk1 => k_is); (case xs1 => k_is); (case xt1 => k_is); (case xg1 => k_is); (case xh1 => k_is); (case xd1 => k_is); (case xe1 => k_is); (case xm1 => k_is); (case xi1_v => kit_is); (case xa2 => k_is); (case xq2 => k_exc); (case xk2 => k_is); (case xs2 => k_is); (case xt2 => k_is); (case xg2 => k_is); (case xh2 => k_is); (case xd2 => k_is); (case xe2 => k_is); (case xm2 => k_is); (case xi2_v => kit_is); (case xa3 => k_is); (case xq3 => k_exc); (case xk3 => k_is); (case xs3 => k_is); (case xt3 => k_is); (case xg3 => k_is); (case xh3 => k_is); (case xd3 => k_is); (case xe3 => k_is); (case xm3 => k_is); (case xi3_v => kit_is); (case zn => k_is); (case zt => k_is); (case xp0_0 => first | rfl | k_is); (case xi0_0 => kit_is); (case xp0_1 => first | rfl | k_is); (case xi0_1 => kit_is); (case xp0_2 => first | rfl | k_is); (case xi0_2 => kit_is); (case xp0_3 => first | rfl | k_is); (case xi0_3 => kit_is); (case xp1_0 => first | rfl | k_is); (case xi1_0 => kit_is); (case xp1_1 => first | rfl | k_is); (case xi1_1 => kit_is); (case xp1_2 => first | rfl | k_is); (case xi1_2 => kit_is); (case xp1_3 => first | rfl | k_is); (case xi1_3 => kit_is); (case xp2_0 => first | rfl | k_is); (case xi2_0 => kit_is); (case xp2_1 => first | rfl | k_is); (case xi2_1 => kit_is); (case xp2_2 => first | rfl | k_is); (case xi2_2 => kit_is); (case xp2_3 => first | rfl | k_is); (case xi2_3 => kit_is); (case xp3_0 => first | rfl | k_is); (case xi3_0 => kit_is); (case xp3_1 => first | rfl | k_is); (case xi3_1 => kit_is); (case xp3_2 => first | rfl | k_is); (case xi3_2 => kit_is); (case xp3_3 => first | rfl | k_is); (case xi3_3 => kit_is)
    (case hlaw => exact L_k01_people.law_holds)
