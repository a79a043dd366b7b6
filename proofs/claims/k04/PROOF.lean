import PyProof.Rows.All
import Wide.All
import OpenK.AllK
import Wide.FinOn
import HandS.ForMost
import HandS.IsInst
import HandS.CallSlots
import HandS.TryMany
import HandS.WordsExc
import HandS.TupAny
import HandS.Deep
import HandS.Conv
import PyProof.StrBlock2
import HandS.TupLe
import HandS.RaiseMore
import HandS.Replace
import HandS.NoneIn
import HandS.ExcIs
import HandS.ExcOwn
import PySem.Challenge.RW_bothbooks_k04_letters
set_option Elab.async false
set_option linter.all false
set_option maxRecDepth 100000
set_option maxHeartbeats 8000000
namespace BB
open PySem PySem.Spec PyProof.Rows L2

/-! values -/
inductive D where
  | non | bl (b : Bool) | int (i : Int) | str (x : Str) | ty (n : String) | fn (n : Nat)
  | tup (l : List D) | lst (l : List D) | dct (t : Bool) (l : List (D × D)) | ref (i : Nat) | scr (l : List D)
/-- a slot of a frame: nothing, a value, a list or dict of its own -/
inductive Slot where
  | no | va (d : D) | ol (l : List D) | od (t : Bool) (l : List (D × D)) | xo (c : Nat) (fs : List (Str × D))
/-- a box of the store -/
inductive Bx where
  | ls (l : List D) | dc (t : Bool) (l : List (D × D)) | ins (c : Nat) (fs : List (Str × D))
abbrev Sto := List Bx
structure S where
  env : List Slot
  st : Sto
/-- what an expression gives -/
inductive R where
  | va (d : D) | fl (l : List D) | fd (t : Bool) (l : List (D × D)) | own (i : Nat)
inductive Oc (α : Type) where
  | ok (a : α) (s : S) | ex (c : Nat) (fs : List (Str × D)) (s : S) | bad
inductive Fl where
  | nx (s : S) | rt (r : R) (s : S) | bk (s : S) | ct (s : S) | ex (c : Nat) (fs : List (Str × D)) (s : S) | bad
inductive CR where
  | ok (r : R) (st : Sto) | ex (c : Nat) (fs : List (Str × D)) (st : Sto) | bad
/-- what is seen of a result -/
inductive Vw where
  | at (d : D) | ls (l : List D) | dc (t : Bool) (l : List (D × D)) | sc (l : List D)
def Oc.bind {α β : Type} (o : Oc α) (f : α → S → Oc β) : Oc β := match o with
  | .ok a s => f a s
  | .ex c fs s => .ex c fs s
  | .bad => .bad

def vwBx (i : Nat) : Option Bx → Option Vw
  | some (.ls l) => some (.ls l)
  | some (.dc t l) => some (.dc t l)
  | some (.ins _ _) => some (.at (.ref i))
  | none => none
def vwSl : Option Slot → Option Vw
  | some (.ol l) => some (.ls l)
  | some (.od t l) => some (.dc t l)
  | _ => none
def view (s : S) : R → Option Vw
  | .va (.lst l) => some (.ls l)
  | .va (.dct t l) => some (.dc t l)
  | .va (.ref i) => vwBx i s.st[i]?
  | .va (.scr l) => some (.sc l)
  | .va d => some (.at d)
  | .fl l => some (.ls l)
  | .fd t l => some (.dc t l)
  | .own i => vwSl s.env[i]?
/-- a result kept -/
def keepR : R → Option D
  | .va d => some d
  | .fl l => some (.lst l)
  | .fd t l => some (.dct t l)
  | .own _ => none
def keepRs : List R → Option (List D)
  | [] => some []
  | r :: rs => match keepR r, keepRs rs with
    | some d, some ds => some (d :: ds)
    | _, _ => none

/-! data -/
mutual
def toP : D → Option PyData
  | .non => some .none
  | .bl b => some (.bool b)
  | .int i => some (.int i)
  | .str x => some (.str x)
  | .tup l => match toPs l with
    | some ps => some (.tuple ps)
    | none => none
  | .lst l => match toPs l with
    | some ps => some (.list ps)
    | none => none
  | _ => none
def toPs : List D → Option (List PyData)
  | [] => some []
  | d :: ds => match toP d, toPs ds with
    | some p, some ps => some (p :: ps)
    | _, _ => none
end
def Vw.toP : Vw → Option PyData
  | .at d => BB.toP d
  | .ls l => match toPs l with
    | some ps => some (.list ps)
    | none => none
  | .dc _ _ => none
  | .sc _ => none
/-- scalars -/
def scalD : D → Option V
  | .non => some .non
  | .bl b => some (.bl b)
  | .int i => some (.int i)
  | .str x => some (.str x)
  | _ => none
def Vw.scal : Vw → Option V
  | .at d => scalD d
  | _ => none
def eqW (a b : Vw) : Option Bool :=
  match a.scal, b.scal with
  | some x, some y => if L2.scal x y = true then some (decide (x = y)) else none
  | _, _ => match a.toP, b.toP with
    | some p, some q => if SeqAt.shaped p = true ∧ SeqAt.shaped q = true then some (PyData.eqv p q) else none
    | _, _ => none
instance (i j : Int) : Decidable (CMul i j) := by unfold CMul; exact inferInstance
instance (i j : Int) : Decidable (CDiv i j) := by unfold CDiv; exact inferInstance
instance (i j : Int) : Decidable (CPow i j) := by unfold CPow; exact inferInstance

def binV (o : Operator) (a b : Vw) : Option R := match o, a, b with
  | .Add, .at (.int i), .at (.int j) => some (.va (.int (i + j)))
  | .Add, .at (.str x), .at (.str y) => if x.length + y.length ≤ sizeLine then some (.va (.str (x ++ y))) else none
  | .Add, .ls x, .ls y => if x.length + y.length ≤ sizeLine then some (.fl (x ++ y)) else none
  | .Add, .at (.tup x), .at (.tup y) => if x.length + y.length ≤ sizeLine then some (.va (.tup (x ++ y))) else none
  | .Sub, .at (.int i), .at (.int j) => some (.va (.int (i - j)))
  | .Mult, .at (.int i), .at (.int j) => if CMul i j then some (.va (.int (i * j))) else none
  | .Mult, .at (.str x), .at (.int j) => if 0 ≤ j ∧ j ≤ 16777216 ∧ x.length * j.toNat ≤ 16777216 then some (.va (.str (Txt.mul x j))) else none
  | .FloorDiv, .at (.int i), .at (.int j) => if CDiv i j then some (.va (.int (i / j))) else none
  | .Mod, .at (.int i), .at (.int j) => if 0 < j then some (.va (.int (i % j))) else none
  | .Pow, .at (.int i), .at (.int j) => if CPow i j then some (.va (.int (i ^ j.toNat))) else none
  | _, _, _ => none
/-- x in y where y is a list or tuple of scalars -/
def flatD (d : D) : Option V := scalD d
def flats : List D → Option (List V)
  | [] => some []
  | d :: ds => match flatD d, flats ds with
    | some v, some vs => if flatV v = true then some (v :: vs) else none
    | _, _ => none
def inW (a b : Vw) : Option Bool := match a, b with
  | .at (.str x), .at (.str z) => match x.cps.toList with
    | [c] => some (decide (c ∈ z.cps.toList))
    | _ => some (!(Builtin.Str.occurrences z x 0 z.length 1).isEmpty)
  | .at d, .at (.tup l) => match flatD d, flats l with
    | some v, some vs => if flatV v = true then some (inV v vs) else none
    | _, _ => none
  | .at d, .ls l => match flatD d, flats l with
    | some v, some vs => if flatV v = true then some (inV v vs) else none
    | _, _ => none
  | _, _ => none
def isW (a b : Vw) : Option Bool := match b with
  | .at .non => match a with
    | .at .non => some true
    | .at _ => some false
    | .ls _ => some false
    | .dc _ _ => some false
    | .sc _ => none
  | .at (.bl y) => match a with
    | .at (.bl x) => some (decide (x = y))
    | _ => none
  | _ => none
def cmpV (o : CmpOp) (a b : Vw) : Option Bool := match o with
  | .Eq => eqW a b
  | .NotEq => (eqW a b).map (!·)
  | .In => inW a b
  | .NotIn => (inW a b).map (!·)
  | .Is => isW a b
  | .IsNot => (isW a b).map (!·)
  | .Lt => match a, b with
    | .at (.int i), .at (.int j) => some (decide (i < j))
    | _, _ => none
  | .LtE => match a, b with
    | .at (.int i), .at (.int j) => some (decide (i ≤ j))
    | _, _ => none
  | .Gt => match a, b with
    | .at (.int i), .at (.int j) => some (decide (j < i))
    | _, _ => none
  | .GtE => match a, b with
    | .at (.int i), .at (.int j) => some (decide (j ≤ i))
    | _, _ => none
def unV (o : UnaryOp) (a : Vw) : Option R := match o, a with
  | .USub, .at (.int i) => some (.va (.int (-i)))
  | _, _ => none
/-- a[i] of a list, a tuple, a text -/
def ixV (a b : Vw) : Option D := match b with
  | .at (.int i) => match a with
    | .ls l => atI l i
    | .sc l => atI l i
    | .at (.tup l) => atI l i
    | .at (.str z) => if z.length ≤ sizeLine then (atI z.cps.toList i).map fun c => .str ⟨#[c]⟩ else none
    | _ => none
  | _ => none
def cutD (xs : List D) (lo hi : Option Int) : List D := (xs.drop (HT.sIx xs.length 0 lo)).take (HT.sIx xs.length xs.length hi - HT.sIx xs.length 0 lo)
def slV (a : Vw) (lo hi : Option Int) : Option R := match a with
  | .ls l => some (.fl (cutD l lo hi))
  | .sc l => some (.fl (cutD l lo hi))
  | .at (.tup l) => some (.va (.tup (cutD l lo hi)))
  | .at (.str z) => if z.length ≤ sizeLine then some (.va (.str (cutS z lo hi))) else none
  | _ => none
end BB

namespace BB
open PySem PySem.Spec PyProof.Rows L2

/-- built-in functions and types that are called -/
inductive Bi where
  | len | int | str | abs | max | min | sum | all | any | list | tuple | isi | ord | sorted | set
/-- methods of built-in types -/
inductive Mt where
  | count | split | join | index | replace | upper | startswith | endswith | lcount
/-- targets: a name, or a tuple of names -/
inductive Tg where
  | nm (i : Nat) (x : Str) (p : Pos)
  | tp (l : List (Nat × Str × Pos)) (k : Nat) (p : Pos)

mutual
inductive C where
  | var (i : Nat) (x : Str) (p : Pos)
  | fz (i : Nat) (x : Str) (p : Pos)
  | mv (i : Nat) (x : Str) (p : Pos)
  | cint (n : Int) (k : Nat) (p : Pos)
  | cbl (b : Bool) (k : Nat) (p : Pos)
  | cnon (k : Nat) (p : Pos)
  | cstr (x : Str) (k : Nat) (p : Pos)
  | glo (n : Nat) (x : Str) (p : Pos)
  | bty (n : String) (x : Str) (p : Pos)
  | tup (es : CL) (k : Nat) (p : Pos)
  | lst (es : CL) (p : Pos)
  | dct (ps : CP) (p : Pos)
  | bin (o : Operator) (a b : C) (p : Pos)
  | un (o : UnaryOp) (a : C) (p : Pos)
  | cmp (o : CmpOp) (a b : C) (p : Pos)
  | chain (o o' : CmpOp) (a b c : C) (p : Pos)
  | and_ (a : C) (es : CL) (p : Pos)
  | or_ (a : C) (es : CL) (p : Pos)
  | not_ (a : C) (p : Pos)
  | ife (t a b : C) (p : Pos)
  | call (n : Nat) (x : Str) (px : Pos) (es : CL) (p : Pos)
  | bi (b : Bi) (px : Pos) (es : CL) (p : Pos)
  | mt (m : Mt) (o : C) (pa : Pos) (es : CL) (p : Pos)
  | get2 (o a b : C) (pa p : Pos)
  | ix (a b : C) (p : Pos)
  | dix (a b : C) (p : Pos)
  | din (neg : Bool) (a b : C) (p : Pos)
  | sl (a : C) (lo hi : CO) (ps p : Pos)
  | fnv (n : Nat) (x : Str) (p : Pos)
  | rvt (a : C) (k : Nat) (p1 p2 p3 p : Pos)
  | calv (i : Nat) (x : Str) (px : Pos) (es : CL) (p : Pos)
  | isx (i : Nat) (x : Str) (px pf : Pos) (n : Nat) (y : Str) (py p : Pos)
  | lc (elt : C) (tg : Tg) (it : CI) (ifs : CL) (sc : Scope) (own : List (Str × Nat)) (p : Pos)
inductive CL where
  | nil | cons (c : C) (cs : CL)
inductive CP where
  | nil | cons (k v : C) (r : CP)
inductive CO where
  | no | so (c : C)
inductive CI where
  | sq (c : C) | rng1 (a : C) (px p : Pos) | rng2 (a b : C) (px p : Pos) | enu (c : C) (px p : Pos) | zip (a b : C) (px p : Pos)
end
mutual
inductive CS where
  | set (i : Nat) (x : Str) (px : Pos) (c : C) (p : Pos)
  | seto (i : Nat) (x : Str) (px : Pos) (c : C) (p : Pos)
  | unp (l : List (Nat × Str × Pos)) (k : Nat) (pt : Pos) (c : C) (p : Pos)
  | app (i : Nat) (x : Str) (px pa : Pos) (c : C) (pc p : Pos)
  | expr (c : C) (p : Pos)
  | rev (i : Nat) (x : Str) (px pa pc p : Pos)
  | ret (c : C) (p : Pos)
  | ifs (t : C) (a b : CB) (p : Pos)
  | for_ (tg : Tg) (it : CI) (body : CB) (p : Pos)
  | while_ (t : C) (body : CB) (p : Pos)
  | pass (p : Pos)
  | wild (s : Stmt)
  | raise_ (n : Nat) (x : Str) (px : Pos) (m : Str) (j : Nat) (pm pc p : Pos)
  | try_ (b : CB) (hs : CH) (p : Pos)
inductive CB where
  | nil | cons (c : CS) (cs : CB)
inductive CH where
  | nil | cons (n : Nat) (x : Str) (px : Pos) (c : CS) (su : CB) (p : Pos) (r : CH) | as_ (n : Nat) (x : Str) (px : Pos) (i : Nat) (y : Str) (c : CS) (su : CB) (p : Pos)
end

/-! the text again -/
def Bi.name : Bi → Str
  | .len => "len" | .int => "int" | .str => "str" | .abs => "abs" | .max => "max" | .min => "min" | .sum => "sum" | .all => "all" | .any => "any"
  | .list => "list" | .tuple => "tuple" | .isi => "isinstance" | .ord => "ord" | .sorted => "sorted" | .set => "set"
def Mt.name : Mt → Str
  | .count => "count" | .split => "split" | .join => "join" | .index => "index" | .replace => "replace" | .upper => "upper"
  | .startswith => "startswith" | .endswith => "endswith" | .lcount => "count"
def upNs : List (Nat × Str × Pos) → List Expr
  | [] => []
  | (_, x, p) :: r => .Name x p :: upNs r
def Tg.up : Tg → Expr
  | .nm _ x p => .Name x p
  | .tp l k p => .Tuple (upNs l) k p
mutual
def C.up : C → Expr
  | .var _ x p => .Name x p
  | .fz _ x p => .Name x p
  | .mv _ x p => .Name x p
  | .cint n k p => .Constant (.int n) k p
  | .cbl b k p => .Constant (.bool b) k p
  | .cnon k p => .Constant .none k p
  | .cstr x k p => .Constant (.str x) k p
  | .glo _ x p => .Name x p
  | .bty _ x p => .Name x p
  | .tup es k p => .Tuple es.up k p
  | .lst es p => .List es.up p
  | .dct ps p => .Dict ps.upK ps.upV p
  | .bin o a b p => .BinOp a.up o b.up p
  | .un o a p => .UnaryOp o a.up p
  | .cmp o a b p => .Compare a.up [o] [b.up] p
  | .chain o o' a b c p => .Compare a.up [o, o'] [b.up, c.up] p
  | .and_ a es p => .BoolOp .And (a.up :: es.up) p
  | .or_ a es p => .BoolOp .Or (a.up :: es.up) p
  | .not_ a p => .UnaryOp .Not a.up p
  | .ife t a b p => .IfExp t.up a.up b.up p
  | .call _ x px es p => .Call (.Name x px) es.up [] p
  | .bi b px es p => .Call (.Name b.name px) es.up [] p
  | .mt m o pa es p => .Call (.Attribute o.up m.name pa) es.up [] p
  | .get2 o a b pa p => .Call (.Attribute o.up "get" pa) [a.up, b.up] [] p
  | .ix a b p => .Subscript a.up b.up p
  | .dix a b p => .Subscript a.up b.up p
  | .din n a b p => .Compare a.up [if n = true then .NotIn else .In] [b.up] p
  | .sl a lo hi ps p => .Subscript a.up (.Slice lo.up hi.up none ps) p
  | .fnv _ x p => .Name x p
  | .rvt a k p1 p2 p3 p => .Subscript a.up (.Slice none none (some (.UnaryOp .USub (.Constant (.int 1) k p1) p2)) p3) p
  | .calv _ x px es p => .Call (.Name x px) es.up [] p
  | .isx _ x px pf _ y py p => .Call (.Name "isinstance" pf) [.Name x px, .Name y py] [] p
  | .lc elt tg it ifs sc _ p => .ListComp elt.up [⟨tg.up, it.up, ifs.up, 0⟩] sc p
def CL.up : CL → List Expr
  | .nil => []
  | .cons c cs => c.up :: cs.up
def CP.upK : CP → List (Option Expr)
  | .nil => []
  | .cons k _ r => some k.up :: r.upK
def CP.upV : CP → List Expr
  | .nil => []
  | .cons _ v r => v.up :: r.upV
def CO.up : CO → Option Expr
  | .no => none
  | .so c => some c.up
def CI.up : CI → Expr
  | .sq c => c.up
  | .rng1 a px p => .Call (.Name "range" px) [a.up] [] p
  | .rng2 a b px p => .Call (.Name "range" px) [a.up, b.up] [] p
  | .enu c px p => .Call (.Name "enumerate" px) [c.up] [] p
  | .zip a b px p => .Call (.Name "zip" px) [a.up, b.up] [] p
end
mutual
def CS.up : CS → Stmt
  | .set _ x px c p => .Assign [.Name x px] c.up p
  | .seto _ x px c p => .Assign [.Name x px] c.up p
  | .unp l k pt c p => .Assign [.Tuple (upNs l) k pt] c.up p
  | .app _ x px pa c pc p => .Expr (.Call (.Attribute (.Name x px) "append" pa) [c.up] [] pc) p
  | .expr c p => .Expr c.up p
  | .rev _ x px pa pc p => .Expr (.Call (.Attribute (.Name x px) "reverse" pa) [] [] pc) p
  | .ret c p => .Return (some c.up) p
  | .ifs t a b p => .If t.up a.up b.up p
  | .for_ tg it b p => .For tg.up it.up b.up [] p
  | .while_ t b p => .While t.up b.up [] p
  | .pass p => .Pass p
  | .wild s => s
  | .raise_ _ x px m j pm pc p => .Raise (some (.Call (.Name x px) [.Constant (.str m) j pm] [] pc)) none p
  | .try_ b hs p => .Try b.up hs.up [] [] p
def CB.up : CB → List Stmt
  | .nil => []
  | .cons c cs => c.up :: cs.up
def CH.up : CH → List ExceptHandler
  | .nil => []
  | .cons _ x px c su p r => .ExceptHandler (some (.Name x px)) none (c.up :: su.up) p :: r.up
  | .as_ _ x px _ y c su p => [.ExceptHandler (some (.Name x px)) (some y) (c.up :: su.up) p]
end

/-! the run -/
structure FnD where
  ps : Nat
  ns : Nat
  body : CB
structure Prog where
  fns : List FnD
  cst : List (Str × D)
  cls : List Str
  sub : Nat → Nat → Bool
def intD : D → Option Int
  | .int i => some i
  | _ => none
def intsD : List D → Option (List Int)
  | [] => some []
  | d :: ds => match intD d, intsD ds with
    | some i, some is => some (i :: is)
    | _, _ => none
def blD : D → Option Bool
  | .bl i => some i
  | _ => none
def blsD : List D → Option (List Bool)
  | [] => some []
  | d :: ds => match blD d, blsD ds with
    | some i, some is => some (i :: is)
    | _, _ => none
def strD : D → Option Str
  | .str i => some i
  | _ => none
def strsD : List D → Option (List Str)
  | [] => some []
  | d :: ds => match strD d, strsD ds with
    | some i, some is => some (i :: is)
    | _, _ => none
/-- the name of the type of a value -/
def tyW : Vw → Option String
  | .at .non => some "NoneType"
  | .at (.bl _) => some "bool"
  | .at (.int _) => some "int"
  | .at (.str _) => some "str"
  | .at (.tup _) => some "tuple"
  | .ls _ => some "list"
  | .dc _ _ => some "dict"
  | _ => none
/-- isinstance of built-in types -/
def isiW (t u : String) : Bool := decide (t = u) || (decide (t = "bool") && decide (u = "int"))
def biV (b : Bi) (l : List Vw) : Option R := match b, l with
  | .len, [.ls l] => some (.va (.int l.length))
  | .len, [.sc l] => some (.va (.int l.length))
  | .len, [.at (.tup l)] => some (.va (.int l.length))
  | .len, [.at (.str z)] => if z.length ≤ sizeLine then some (.va (.int z.length)) else none
  | .int, [.at (.int i)] => some (.va (.int i))
  | .int, [.at (.bl k)] => some (.va (.int (if k then 1 else 0)))
  | .int, [.at (.str x)] => match PySem.intText? x with
    | some n => if x.length ≤ 640 then some (.va (.int n)) else none
    | none => none
  | .str, [.at .non] => some (.va (.str "None"))
  | .str, [.at (.bl b)] => some (.va (.str (if b then "True" else "False")))
  | .str, [.at (.int i)] => if i.natAbs.log2 < 1920 then some (.va (.str (toString i))) else none
  | .str, [.at (.str x)] => some (.va (.str x))
  | .abs, [.at (.int i)] => some (.va (.int (if i < 0 then -i else i)))
  | .max, [.at (.int i), .at (.int j)] => some (.va (.int (if j > i then j else i)))
  | .min, [.at (.int i), .at (.int j)] => some (.va (.int (if j < i then j else i)))
  | .sum, [.ls l] => (intsD l).map fun is => .va (.int is.sum)
  | .all, [.ls l] => (blsD l).map fun is => .va (.bl (is.all id))
  | .any, [.ls l] => (blsD l).map fun is => .va (.bl (is.any id))
  | .list, [.ls l] => some (.fl l)
  | .list, [.at (.tup l)] => some (.fl l)
  | .tuple, [.ls l] => some (.va (.tup l))
  | .tuple, [.at (.tup l)] => some (.va (.tup l))
  | .isi, [a, .at (.ty u)] => if u ∈ ["str", "int", "bool", "tuple", "list", "dict"] then (tyW a).map fun t => .va (.bl (isiW t u)) else none
  | .ord, [.at (.str x)] => if x.length = 1 then some (.va (.int (x.cps.getD 0 0 : Nat))) else none
  | _, _ => none
def mtV (m : Mt) (o : Vw) (l : List Vw) : Option R := match m, o, l with
  | .count, .at (.str a), [.at (.str b)] => some (.va (.int (Txt.count a b)))
  | .split, .at (.str a), [.at (.str b)] => if (b.length == 0) = false ∧ a.length + 2 ≤ sizeLine then some (.fl ((Txt.split a b).map .str)) else none
  | .join, .at (.str a), [.ls l] => match strsD l with
    | some ys => if (ys.map (·.length)).sum + ys.length * a.length ≤ 16777216 then some (.va (.str (Txt.join a ys))) else none
    | none => none
  | .upper, .at (.str a), [] => if a.length ≤ 5592405 then some (.va (.str (Txt.upper a))) else none
  | .startswith, .at (.str a), [.at (.str b)] => some (.va (.bl (Txt.startswith a b)))
  | .endswith, .at (.str a), [.at (.str b)] => some (.va (.bl (Txt.endswith a b)))
  | .index, .at (.str a), [.at (.str b)] => match Builtin.Str.occurrences a b 0 a.length 1 with
    | i :: _ => some (.va (.int (i : Nat)))
    | [] => none
  | _, _, _ => none
/-- a key of a dict -/
def keyD : D → Option Key
  | .int i => some (.inl i)
  | .str x => some (.inr x)
  | _ => none
def keysD : List D → Option (List Key)
  | [] => some []
  | d :: ds => match keyD d, keysD ds with
    | some k, some ks => some (k :: ks)
    | _, _ => none
def dkey : D → Option (Sum Key (List Key))
  | .tup l => (keysD l).map .inr
  | d => (keyD d).map .inl
/-- what a dict holds at a key -/
def dget (k : Sum Key (List Key)) (l : List (D × D)) : Option D := (l.find? fun p => decide (dkey p.1 = some k)).map (·.2)
def dput (kd : D) (k : Sum Key (List Key)) (v : D) (l : List (D × D)) : List (D × D) :=
  if (l.any fun p => decide (dkey p.1 = some k)) = true then l.map (fun p => if dkey p.1 = some k then (p.1, v) else p) else l ++ [(kd, v)]
/-- a display -/
def dputs : List (D × D) → List (D × D) → Option (List (D × D))
  | acc, [] => some acc
  | acc, (k, v) :: r => match keyD k with
    | some q => dputs (dput k (.inl q) v acc) r
    | none => none
def keepPs : List (R × R) → Option (List (D × D))
  | [] => some []
  | (a, b) :: rs => match keepR a, keepR b, keepPs rs with
    | some d, some e, some ds => some ((d, e) :: ds)
    | _, _, _ => none
def views (s : S) : List R → Option (List Vw)
  | [] => some []
  | r :: rs => match view s r, views s rs with
    | some v, some vs => some (v :: vs)
    | _, _ => none
def opt {α : Type} (o : Option α) (s : S) : Oc α := match o with
  | some a => .ok a s
  | none => .bad
def setE (s : S) (i : Nat) (x : Slot) : S := ⟨s.env.set i x, s.st⟩
def bindN : List (Nat × Str × Pos) → List D → S → Option S
  | [], [], s => some s
  | (i, _, _) :: r, d :: ds, s => bindN r ds (setE s i (.va d))
  | _, _, _ => none
def bindT (t : Tg) (d : D) (s : S) : Option S := match t with
  | .nm i _ _ => some (setE s i (.va d))
  | .tp l _ _ => match d with
    | .tup ds => bindN l ds s
    | _ => none
def wipeE (s : S) : List Nat → S
  | [] => s
  | i :: r => setE (wipeE s r) i .no
def enumD : Nat → List D → List D
  | _, [] => []
  | n, d :: ds => .tup [.int n, d] :: enumD (n + 1) ds
def zipD : List D → List D → List D
  | a :: as, b :: bs => .tup [a, b] :: zipD as bs
  | _, _ => []
def rngD (lo : Int) : Nat → List D
  | 0 => []
  | n + 1 => .int lo :: rngD (lo + 1) n
def small62 (j : Int) : Bool := decide (-(2 ^ 62) ≤ j) && decide (j < 2 ^ 62)
/-- the items that a for walks: a list or a tuple is kept as it stands -/
def sqItems (s : S) (r : R) : Option (List D) := match r with
  | .own _ => none
  | .va (.ref _) => none
  | _ => match view s r with
    | some (.ls l) => some l
    | some (.at (.tup l)) => some l
    | some (.at (.str z)) => some (z.cps.toList.map fun c => .str ⟨#[c]⟩)
    | _ => none
/-- the items that are unpacked -/
def unpItems (s : S) (r : R) : Option (List D) := match r with
  | .own _ => none
  | .va (.ref _) => none
  | _ => match view s r with
    | some (.ls l) => some l
    | some (.at (.tup l)) => some l
    | _ => none
/-- the turns of a comprehension -/
def lcTurns (b : D → S → Oc (Option D)) : List D → List D → S → Oc (List D)
  | [], acc, s => .ok acc s
  | d :: ds, acc, s => match b d s with
    | .ok none s1 => lcTurns b ds acc s1
    | .ok (some y) s1 => if acc.length < sizeLine then lcTurns b ds (acc ++ [y]) s1 else .bad
    | _ => .bad
/-- the turns of a for -/
def forTurns (b : D → S → Fl) : List D → S → Fl
  | [], s => .nx s
  | d :: ds, s => match b d s with
    | .nx s1 => forTurns b ds s1
    | .ct s1 => forTurns b ds s1
    | .bk s1 => .nx s1
    | f => f
/-- the turns of a while, so many at most -/
def whTurns (t : S → Oc Bool) (b : S → Fl) : Nat → S → Fl
  | 0, _ => .bad
  | n + 1, s => match t s with
    | .bad => .bad
    | .ex c fs s1 => .ex c fs s1
    | .ok false s1 => .nx s1
    | .ok true s1 => match b s1 with
      | .nx s2 => whTurns t b n s2
      | .ct s2 => whTurns t b n s2
      | .bk s2 => .nx s2
      | f => f
def whFuel : Nat := 1000000
def asB (o : Oc R) : Oc Bool := o.bind fun r s => match r with
  | .va (.bl b) => .ok b s
  | _ => .bad
section
variable (G : Prog) (cal : Nat → List D → Sto → CR)
def doCall (n : Nat) (ds : List D) (s : S) : Oc R := match cal n ds s.st with
  | .ok r st => .ok r ⟨s.env, st⟩
  | .ex c fs st => .ex c fs ⟨s.env, st⟩
  | .bad => .bad
mutual
def ev : C → S → Oc R
  | .var i _ _, s => match s.env[i]? with
    | some (.va d) => .ok (.va d) s
    | some (.ol _) => .ok (.own i) s
    | some (.od _ _) => .ok (.own i) s
    | _ => .bad
  | .fz i _ _, s => match s.env[i]? with
    | some (.va d) => .ok (.va d) s
    | some (.ol l) => .ok (.va (.lst l)) (setE s i (.va (.lst l)))
    | some (.od t l) => .ok (.va (.dct t l)) (setE s i (.va (.dct t l)))
    | _ => .bad
  | .mv i _ _, s => match s.env[i]? with
    | some (.va d) => .ok (.va d) s
    | some (.ol l) => .ok (.fl l) (setE s i .no)
    | some (.od t l) => .ok (.fd t l) (setE s i .no)
    | _ => .bad
  | .cint n _ _, s => .ok (.va (.int n)) s
  | .cbl b _ _, s => .ok (.va (.bl b)) s
  | .cnon _ _, s => .ok (.va .non) s
  | .cstr x _ _, s => .ok (.va (.str x)) s
  | .glo n _ _, s => match G.cst[n]? with
    | some (_, d) => .ok (.va d) s
    | none => .bad
  | .bty n _ _, s => .ok (.va (.ty n)) s
  | .tup es _ _, s => (evL es s).bind fun rs s1 => match keepRs rs with
    | some ds => if ds.length ≤ sizeLine then .ok (.va (.tup ds)) s1 else .bad
    | none => .bad
  | .lst es _, s => (evL es s).bind fun rs s1 => match keepRs rs with
    | some ds => if ds.length ≤ sizeLine then .ok (.fl ds) s1 else .bad
    | none => .bad
  | .dct ps _, s => (evP ps s).bind fun l s1 => match keepPs l with
    | some q => if 0 < q.length ∧ q.length ≤ 15 then opt ((dputs [] q).map (.fd false)) s1 else .bad
    | none => .bad
  | .bin o a b _, s => (ev a s).bind fun x s1 => (ev b s1).bind fun y s2 => match view s2 x, view s2 y with
    | some u, some v => opt (binV o u v) s2
    | _, _ => .bad
  | .un o a _, s => (ev a s).bind fun x s1 => match view s1 x with
    | some u => opt (unV o u) s1
    | _ => .bad
  | .cmp o a b _, s => (ev a s).bind fun x s1 => (ev b s1).bind fun y s2 => match view s2 x, view s2 y with
    | some u, some v => opt ((cmpV o u v).map fun t => .va (.bl t)) s2
    | _, _ => .bad
  | .chain o o' a b c _, s => (ev a s).bind fun x s1 => (ev b s1).bind fun y s2 => match view s2 x, view s2 y with
    | some u, some v => match cmpV o u v with
      | some true => (ev c s2).bind fun z s3 => match view s3 y, view s3 z with
        | some v, some w => opt ((cmpV o' v w).map fun t => .va (.bl t)) s3
        | _, _ => .bad
      | some false => .ok (.va (.bl false)) s2
      | none => .bad
    | _, _ => .bad
  | .and_ a es _, s => (asB (ev a s)).bind fun t s1 => if t = true then evAnd es s1 else .ok (.va (.bl false)) s1
  | .or_ a es _, s => (asB (ev a s)).bind fun t s1 => if t = true then .ok (.va (.bl true)) s1 else evOr es s1
  | .not_ a _, s => (asB (ev a s)).bind fun t s1 => .ok (.va (.bl (!t))) s1
  | .ife t a b _, s => (asB (ev t s)).bind fun t s1 => if t = true then ev a s1 else ev b s1
  | .call n _ _ es _, s => (evL es s).bind fun rs s1 => match keepRs rs with
    | some ds => doCall cal n ds s1
    | none => .bad
  | .bi b _ es _, s => (evL es s).bind fun rs s1 => match views s1 rs with
    | some vs => opt (biV b vs) s1
    | none => .bad
  | .mt m o _ es _, s => (ev o s).bind fun x s1 => match x with
    | .va (.str a) => (evL es s1).bind fun rs s2 => match views s2 rs with
      | some vs => opt (mtV m (.at (.str a)) vs) s2
      | _ => .bad
    | _ => .bad
  | .get2 o a b _ _, s => (ev o s).bind fun x s1 => match view s1 x with
    | some (.dc false _) => (ev a s1).bind fun y s2 => (ev b s2).bind fun z s3 => match view s3 x, keepRs [y, z] with
      | some (.dc false l), some [k, d] => match keyD k with
        | some q => .ok (.va ((dget (.inl q) l).getD d)) s3
        | none => .bad
      | _, _ => .bad
    | _ => .bad
  | .ix a b _, s => (ev a s).bind fun x s1 => (ev b s1).bind fun y s2 => match view s2 x, view s2 y with
    | some u, some v => opt ((ixV u v).map .va) s2
    | _, _ => .bad
  | .dix a b _, s => (ev a s).bind fun x s1 => (ev b s1).bind fun y s2 => match view s2 x, keepR y with
    | some (.dc false l), some k => match keyD k with
      | some q => opt ((dget (.inl q) l).map .va) s2
      | none => .bad
    | _, _ => .bad
  | .din n a b _, s => (ev a s).bind fun x s1 => (ev b s1).bind fun y s2 => match keepR x, view s2 y with
    | some k, some (.dc false l) => match keyD k with
      | some q => .ok (.va (.bl (if n = true then !(dget (.inl q) l).isSome else (dget (.inl q) l).isSome))) s2
      | none => .bad
    | _, _ => .bad
  | .fnv n _ _, s => .ok (.va (.fn n)) s
  | .rvt a _ _ _ _ _, s => (ev a s).bind fun x s1 => match view s1 x with
    | some (.at (.tup l)) => .ok (.va (.tup l.reverse)) s1
    | _ => .bad
  | .calv i _ _ es _, s => match s.env[i]? with
    | some (.va (.fn n)) => if (G.fns[n]?).isSome = true then (evL es s).bind fun rs s1 => match keepRs rs with
      | some ds => doCall cal n ds s1
      | none => .bad
      else .bad
    | _ => .bad
  | .isx i _ _ _ n _ _ _, s => match s.env[i]? with
    | some (.xo c []) => if (G.cls[c]?).isSome = true then .ok (.va (.bl (G.sub c n))) s else .bad
    | _ => .bad
  | .sl a lo hi _ _, s => (ev a s).bind fun x s1 => (evO lo s1).bind fun l s2 => (evO hi s2).bind fun h s3 => match view s3 x with
    | some u => opt (slV u l h) s3
    | none => .bad
  | .lc elt tg it ifs _ own _, s => (evI it s).bind fun l s1 =>
      (lcTurns (fun d s => match bindT tg d s with
        | none => .bad
        | some s1 => (evIfs ifs s1).bind fun t s2 => if t = true then (ev elt s2).bind fun r s3 => (match keepR r with
            | some y => .ok (some y) (wipeE s3 (own.map (·.2)))
            | none => .bad) else .ok none (wipeE s2 (own.map (·.2)))) l [] (wipeE s1 (own.map (·.2)))).bind fun ys s2 => .ok (.fl ys) s2
def evL : CL → S → Oc (List R)
  | .nil, s => .ok [] s
  | .cons c cs, s => (ev c s).bind fun r s1 => (evL cs s1).bind fun rs s2 => .ok (r :: rs) s2
def evP : CP → S → Oc (List (R × R))
  | .nil, s => .ok [] s
  | .cons k v r, s => (ev k s).bind fun a s1 => (ev v s1).bind fun b s2 => (evP r s2).bind fun rs s3 => .ok ((a, b) :: rs) s3
def evAnd : CL → S → Oc R
  | .nil, s => .bad
  | .cons c .nil, s => ev c s
  | .cons c (.cons d ds), s => (asB (ev c s)).bind fun t s1 => if t = true then evAnd (.cons d ds) s1 else .ok (.va (.bl false)) s1
def evOr : CL → S → Oc R
  | .nil, s => .bad
  | .cons c .nil, s => ev c s
  | .cons c (.cons d ds), s => (asB (ev c s)).bind fun t s1 => if t = true then .ok (.va (.bl true)) s1 else evOr (.cons d ds) s1
def evIfs : CL → S → Oc Bool
  | .nil, s => .ok true s
  | .cons c .nil, s => asB (ev c s)
  | .cons _ (.cons _ _), _ => .bad
def evO : CO → S → Oc (Option Int)
  | .no, s => .ok none s
  | .so c, s => (ev c s).bind fun r s1 => match r with
    | .va (.int i) => .ok (some i) s1
    | _ => .bad
def evI : CI → S → Oc (List D)
  | .sq c, s => (ev c s).bind fun r s1 => opt (sqItems s1 r) s1
  | .rng1 a _ _, s => (ev a s).bind fun r s1 => match r with
    | .va (.int j) => if small62 j = true then .ok (rngD 0 j.toNat) s1 else .bad
    | _ => .bad
  | .rng2 a b _ _, s => (ev a s).bind fun r s1 => (ev b s1).bind fun r2 s2 => match r, r2 with
    | .va (.int i), .va (.int j) => if small62 i = true ∧ small62 j = true then .ok (rngD i (j - i).toNat) s2 else .bad
    | _, _ => .bad
  | .enu c _ _, s => (ev c s).bind fun r s1 => match sqItems s1 r, view s1 r with
    | some l, some (.ls _) => .ok (enumD 0 l) s1
    | _, _ => .bad
  | .zip a b _ _, s => (ev a s).bind fun x s1 => (ev b s1).bind fun y s2 => match sqItems s2 x, sqItems s2 y, view s2 x, view s2 y with
    | some l, some m, some (.ls _), some (.ls _) => .ok (zipD l m) s2
    | _, _, _, _ => .bad
end
def Oc.fl {α : Type} (o : Oc α) (f : α → S → Fl) : Fl := match o with
  | .ok a s => f a s
  | .ex c fs s => .ex c fs s
  | .bad => .bad
/-- behind a suite -/
def noXo (l : List Slot) : Bool := l.all fun x => match x with | .xo _ _ => false | _ => true
def aftS (f : Fl) : Fl := match f with
  | .nx s => if noXo s.env = true then .nx s else .bad
  | _ => .bad
def aftA (i : Nat) (f : Fl) : Fl := match f with
  | .nx s => if noXo (s.env.set i .no) = true then .nx (setE s i .no) else .bad
  | _ => .bad
mutual
def exs : CS → S → Fl
  | .set i _ _ c _, s => (ev G cal c s).fl fun r s1 => match keepR r with
    | some d => .nx (setE s1 i (.va d))
    | none => .bad
  | .seto i _ _ c _, s => (ev G cal c s).fl fun r s1 => match r with
    | .fl l => .nx (setE s1 i (.ol l))
    | .fd t l => .nx (setE s1 i (.od t l))
    | .va d => .nx (setE s1 i (.va d))
    | .own _ => .bad
  | .unp l _ _ c _, s => (ev G cal c s).fl fun r s1 => match unpItems s1 r with
    | some ds => match bindN l ds s1 with
      | some s2 => .nx s2
      | none => .bad
    | none => .bad
  | .app i _ _ _ c _ _, s => match s.env[i]? with
    | some (.ol _) => (ev G cal c s).fl fun r s1 => match keepR r, s1.env[i]? with
      | some d, some (.ol l) => if l.length < sizeLine then .nx (setE s1 i (.ol (l ++ [d]))) else .bad
      | _, _ => .bad
    | _ => .bad
  | .expr c _, s => (ev G cal c s).fl fun _ s1 => .nx s1
  | .rev i _ _ _ _ _, s => match s.env[i]? with
    | some (.ol l) => .nx (setE s i (.ol l.reverse))
    | _ => .bad
  | .ret c _, s => (ev G cal c s).fl fun r s1 => .rt r s1
  | .ifs t a b _, s => (asB (ev G cal t s)).fl fun t s1 => if t = true then exb a s1 else exb b s1
  | .for_ tg it b _, s => (evI G cal it s).fl fun l s1 => forTurns (fun d s => match bindT tg d s with
      | some s1 => exb b s1
      | none => .bad) l s1
  | .while_ t b _, s => whTurns (fun s => asB (ev G cal t s)) (fun s => exb b s) whFuel s
  | .pass _, s => .nx s
  | .wild _, _ => .bad
  | .raise_ n _ _ _ _ _ _ _, s => .ex n [] s
  | .try_ b hs _, s => match exb b s with
    | .ex c fs s1 => exh hs c fs s1
    | f => f
def exb : CB → S → Fl
  | .nil, s => .nx s
  | .cons c cs, s => match exs c s with
    | .nx s1 => exb cs s1
    | f => f
def exh : CH → Nat → List (Str × D) → S → Fl
  | .nil, c, fs, s => .ex c fs s
  | .cons n _ _ c1 su _ r, c, fs, s => if (G.cls[c]?).isSome = true then (if G.sub c n = true then aftS (match exs c1 s with
    | .nx s1 => exb su s1
    | f => f) else exh r c fs s) else .bad
  | .as_ n _ _ i _ c1 su _, c, fs, s => if (G.cls[c]?).isSome = true then (if G.sub c n = true then aftA i (match exs c1 (setE s i (.xo c fs)) with
    | .nx s1 => exb su s1
    | f => f) else .ex c fs s) else .bad
end
end
def outR (f : Fl) : CR := match f with
  | .nx s => .ok (.va .non) s.st
  | .rt (.own _) _ => .bad
  | .rt r s => .ok r s.st
  | .ex c fs s => .ex c fs s.st
  | _ => .bad
/-- a call, so deep at most -/
def cal (G : Prog) : Nat → Nat → List D → Sto → CR
  | 0, _, _, _ => .bad
  | k + 1, n, ds, st => match G.fns[n]? with
    | some f => if ds.length = f.ps then outR (exb G (cal G k) f.body ⟨ds.map .va ++ List.replicate (f.ns - f.ps) .no, st⟩) else .bad
    | none => .bad
end BB

namespace BB
open PySem PySem.Spec PyProof.Rows L2

/-- where the boxes stand, which addresses never change -/
structure Gh where
  io : List Addr
  F : Addr → Prop
/-- the addresses of the text's defs and classes -/
structure Tab where
  f : Nat → Addr
  c : Nat → Addr
  x : Option (Addr × Value × Option Addr)
/-- a list that nobody here writes -/
def SqS (K : PySem.W.Frag) (G : Gh) (H : Hp) (a : Addr) (xs : List V) : Prop := (G.F a ∧ Rd H a (.lst xs)) ∨
    ∃ (o : Obj) (its : Array Value) (n : Nat), K.lookup a = some o ∧ o.cls = .type "list" ∧ o.dict = none ∧ o.data = .seq its n ∧ its.size ≤ sizeLine ∧ Vals xs its.toList
section
variable (T : Tab) (K : PySem.W.Frag)
mutual
inductive RV (G : Gh) (H : Hp) : V → D → Prop
  | non : RV G H .non .non
  | bl (b : Bool) : RV G H (.bl b) (.bl b)
  | int (i : Int) : RV G H (.int i) (.int i)
  | str (x : Str) : RV G H (.str x) (.str x)
  | ty (n : String) : RV G H (.ty n) (.ty n)
  | fn (n : Nat) : RV G H (.ref (T.f n)) (.fn n)
  | tup {a : Addr} {vs : List V} {ds : List D} : SqT K H a vs → RVs G H vs ds → RV G H (.ref a) (.tup ds)
  | lst {a : Addr} {vs : List V} {ds : List D} : G.F a → Rd H a (.lst vs) → RVs G H vs ds → RV G H (.ref a) (.lst ds)
  | dcK {a : Addr} {kvs : List (Key × V)} {l : List (D × D)} : G.F a → H a = some (.dK kvs) → RKs G H kvs l → RV G H (.ref a) (.dct false l)
  | dcT {a : Addr} {kvs : List (List Key × V)} {l : List (D × D)} : G.F a → H a = some (.dT kvs) → RTs G H kvs l → RV G H (.ref a) (.dct true l)
  | ref {i : Nat} {a : Addr} : G.io[i]? = some a → RV G H (.ref a) (.ref i)
  | scr {a : Addr} {vs : List V} {ds : List D} : SqS K G H a vs → RVs G H vs ds → RV G H (.ref a) (.scr ds)
inductive RVs (G : Gh) (H : Hp) : List V → List D → Prop
  | nil : RVs G H [] []
  | cons {v : V} {d : D} {vs : List V} {ds : List D} : RV G H v d → RVs G H vs ds → RVs G H (v :: vs) (d :: ds)
inductive RKs (G : Gh) (H : Hp) : List (Key × V) → List (D × D) → Prop
  | nil : RKs G H [] []
  | cons {k : Key} {v : V} {kd d : D} {vs : List (Key × V)} {ds : List (D × D)} : dkey kd = some (.inl k) → RV G H v d → RKs G H vs ds → RKs G H ((k, v) :: vs) ((kd, d) :: ds)
inductive RTs (G : Gh) (H : Hp) : List (List Key × V) → List (D × D) → Prop
  | nil : RTs G H [] []
  | cons {k : List Key} {v : V} {kd d : D} {vs : List (List Key × V)} {ds : List (D × D)} : dkey kd = some (.inr k) → RV G H v d → RTs G H vs ds → RTs G H ((k, v) :: vs) ((kd, d) :: ds)
end
/-- what never changes stands -/
structure Pers (G : Gh) (H : Hp) (G' : Gh) (H' : Hp) : Prop where
  io : ∀ (i : Nat) (a : Addr), G.io[i]? = some a → G'.io[i]? = some a
  F : ∀ a, G.F a → G'.F a
  kF : ∀ a, G.F a → H' a = H a
  tup : ∀ a xs, H a = some (.tup xs) → H' a = some (.tup xs)
  frz : ∀ a o u, H a = some (.frz o u) → H' a = some (.frz o u)
  xd : ∀ a fs, H a = some (.xd fs) → H' a = some (.xd fs)
theorem Pers.refl (G : Gh) (H : Hp) : Pers G H G H := ⟨fun _ _ h => h, fun _ h => h, fun _ _ => rfl, fun _ _ h => h, fun _ _ _ h => h, fun _ _ h => h⟩
theorem Pers.trans {G G1 G2 : Gh} {H H1 H2 : Hp} (a : Pers G H G1 H1) (b : Pers G1 H1 G2 H2) : Pers G H G2 H2 :=
  ⟨fun i x h => b.io i x (a.io i x h), fun x h => b.F x (a.F x h), fun x h => (b.kF x (a.F x h)).trans (a.kF x h), fun x xs h => b.tup x xs (a.tup x xs h), fun x o u h => b.frz x o u (a.frz x o u h), fun x fs h => b.xd x fs (a.xd x fs h)⟩
variable {T K}
theorem Pers.sqT {G G' : Gh} {H H' : Hp} (p : Pers G H G' H') {a : Addr} {xs : List V} (h : SqT K H a xs) : SqT K H' a xs := by
  rcases h with (h | ⟨o, h⟩) | h
  · exact .inl (.inl (p.tup _ _ h))
  · exact .inl (.inr ⟨o, p.frz _ _ _ h⟩)
  · exact .inr h
theorem Pers.rd {G G' : Gh} {H H' : Hp} (p : Pers G H G' H') {a : Addr} {u : HO} (f : G.F a) (h : Rd H a u) : Rd H' a u := by
  unfold Rd at *
  rw [p.kF a f]
  exact h
theorem RV.mono {G G' : Gh} {H H' : Hp} (p : Pers G H G' H') {v : V} {d : D} (h : RV T K G H v d) : RV T K G' H' v d := by
  refine RV.rec (motive_1 := fun v d _ => RV T K G' H' v d) (motive_2 := fun vs ds _ => RVs T K G' H' vs ds) (motive_3 := fun vs ds _ => RKs T K G' H' vs ds) (motive_4 := fun vs ds _ => RTs T K G' H' vs ds)
    ?_ ?_ ?_ ?_ ?_ ?_ ?_ ?_ ?_ ?_ ?_ ?_ ?_ ?_ ?_ ?_ ?_ ?_ h
  · exact .non
  · exact fun b => .bl b
  · exact fun b => .int b
  · exact fun b => .str b
  · exact fun b => .ty b
  · exact fun b => .fn b
  · exact fun q _ ih => .tup (p.sqT q) ih
  · exact fun f q _ ih => .lst (p.F _ f) (p.rd f q) ih
  · exact fun f q _ ih => .dcK (p.F _ f) ((p.kF _ f).trans q) ih
  · exact fun f q _ ih => .dcT (p.F _ f) ((p.kF _ f).trans q) ih
  · exact fun q => .ref (p.io _ _ q)
  · exact fun q _ ih => .scr (q.imp (fun q => ⟨p.F _ q.1, p.rd q.1 q.2⟩) id) ih
  · exact .nil
  · exact fun _ _ i j => .cons i j
  · exact .nil
  · exact fun e _ _ i j => .cons e i j
  · exact .nil
  · exact fun e _ _ i j => .cons e i j
theorem RVs.mono {G G' : Gh} {H H' : Hp} (p : Pers G H G' H') : ∀ {vs : List V} {ds : List D}, RVs T K G H vs ds → RVs T K G' H' vs ds
  | _, _, .nil => .nil
  | _, _, .cons r t => .cons (r.mono p) (RVs.mono p t)
theorem RKs.mono {G G' : Gh} {H H' : Hp} (p : Pers G H G' H') : ∀ {vs : List (Key × V)} {ds : List (D × D)}, RKs T K G H vs ds → RKs T K G' H' vs ds
  | _, _, .nil => .nil
  | _, _, .cons e r t => .cons e (r.mono p) (RKs.mono p t)
theorem RTs.mono {G G' : Gh} {H H' : Hp} (p : Pers G H G' H') : ∀ {vs : List (List Key × V)} {ds : List (D × D)}, RTs T K G H vs ds → RTs T K G' H' vs ds
  | _, _, .nil => .nil
  | _, _, .cons e r t => .cons e (r.mono p) (RTs.mono p t)
variable (T K)
inductive RFs (G : Gh) (H : Hp) : List (Str × V) → List (Str × D) → Prop
  | nil : RFs G H [] []
  | cons {k : Str} {v : V} {d : D} {vs : List (Str × V)} {ds : List (Str × D)} : RV T K G H v d → RFs G H vs ds → RFs G H ((k, v) :: vs) ((k, d) :: ds)
/-- a raised exception: its class, its own fields -/
def ExR (n : Nat) (fs : List (Str × D)) (cls : Value) (d : Option Addr) (G : Gh) (H : Hp) : Prop :=
  cls = .ref (T.c n) ∧ ((fs = [] ∧ d = none) ∨ (fs ≠ [] ∧ ∃ dd fv, d = some dd ∧ H dd = some (.xd fv) ∧ RFs T K G H fv fs))
/-- a slot -/
inductive SlotR (G : Gh) (H : Hp) : Option (Option V) → Slot → Prop
  | no (o : Option (Option V)) : SlotR G H o .no
  | va {v : V} {d : D} : RV T K G H v d → SlotR G H (some (some v)) (.va d)
  | ol {a : Addr} {vs : List V} {l : List D} : H a = some (.lst vs) → RVs T K G H vs l → SlotR G H (some (some (.ref a))) (.ol l)
  | odK {a : Addr} {vs : List (Key × V)} {l : List (D × D)} : H a = some (.dK vs) → RKs T K G H vs l → SlotR G H (some (some (.ref a))) (.od false l)
  | odT {a : Addr} {vs : List (List Key × V)} {l : List (D × D)} : H a = some (.dT vs) → RTs T K G H vs l → SlotR G H (some (some (.ref a))) (.od true l)
  | xo {a : Addr} {cls : Value} {d : Option Addr} {n : Nat} {fs : List (Str × D)} : T.x = some (a, cls, d) → ExR T K n fs cls d G H → SlotR G H (some (some (.ref a))) (.xo n fs)
/-- a box -/
inductive BxR (G : Gh) (H : Hp) (a : Addr) : Bx → Prop
  | ls {vs : List V} {l : List D} : H a = some (.lst vs) → RVs T K G H vs l → BxR G H a (.ls l)
  | dcK {vs : List (Key × V)} {l : List (D × D)} : H a = some (.dK vs) → RKs T K G H vs l → BxR G H a (.dc false l)
  | dcT {vs : List (List Key × V)} {l : List (D × D)} : H a = some (.dT vs) → RTs T K G H vs l → BxR G H a (.dc true l)
  | ins {n : Nat} {dx : Addr} {fs : List (Str × V)} {l : List (Str × D)} : H a = some (.ins (T.c n) dx fs) → RFs T K G H fs l → BxR G H a (.ins n l)
def isOwn : Slot → Bool
  | .ol _ => true
  | .od _ _ => true
  | _ => false
/-- slot i owns the object at a -/
def Own (s : S) (σ : L2.St) (i : Nat) (a : Addr) : Prop := (∃ x, s.env[i]? = some x ∧ isOwn x = true) ∧ σ[i]? = some (some (.ref a))
def OwnA (s : S) (σ : L2.St) (a : Addr) : Prop := ∃ i, Own s σ i a
structure Bs where
  G : Gh
  H : Hp
/-- the store -/
structure RelC (G : Gh) (st : Sto) (H : Hp) : Prop where
  len : st.length = G.io.length
  bx : ∀ (i : Nat) (o : Bx) (a : Addr), st[i]? = some o → G.io[i]? = some a → BxR T K G H a o
  nd : G.io.Nodup
  ioF : ∀ a ∈ G.io, ¬ G.F a
  Fd : ∀ a, G.F a → H a ≠ none
/-- behind a call -/
structure Ext (G : Gh) (H : Hp) (G' : Gh) (H' : Hp) : Prop where
  p : Pers G H G' H'
  keep : ∀ a o, H a = some o → a ∉ G.io → H' a = some o
  dom : ∀ a, H a ≠ none → H' a ≠ none
  nio : ∀ a ∈ G'.io, a ∉ G.io → H a = none
  nF : ∀ a, G'.F a → ¬ G.F a → H a = none
theorem Ext.refl (G : Gh) (H : Hp) : Ext G H G H := ⟨.refl _ _, fun _ _ h _ => h, fun _ h => h, fun _ h n => absurd h n, fun _ h n => absurd h n⟩
/-- the frame and the store -/
structure Rel (B : Bs) (G : Gh) (s : S) (σ : L2.St) (H : Hp) : Prop where
  len : s.env.length = σ.length
  sl : ∀ (i : Nat) (x : Slot), s.env[i]? = some x → SlotR T K G H σ[i]? x
  own1 : ∀ a, OwnA s σ a → ¬ G.F a ∧ a ∉ G.io ∧ B.H a = none
  own2 : ∀ i j a, Own s σ i a → Own s σ j a → i = j
  c : RelC T K G s.st H
  b : Ext B.G B.H G H
/-- an expression's step -/
structure Stp (σ : L2.St) (G : Gh) (s : S) (H : Hp) (G' : Gh) (s' : S) (H' : Hp) : Prop where
  p : Pers G H G' H'
  keep : ∀ a o, H a = some o → a ∉ G.io → ¬ OwnA s σ a → H' a = some o
  dom : ∀ a, H a ≠ none → H' a ≠ none
  nio : ∀ a ∈ G'.io, a ∉ G.io → H a = none ∨ OwnA s σ a
  nF : ∀ a, G'.F a → ¬ G.F a → H a = none ∨ OwnA s σ a
  ow : ∀ a, OwnA s' σ a → OwnA s σ a
theorem Stp.refl (σ : L2.St) (G : Gh) (s : S) (H : Hp) : Stp σ G s H G s H := ⟨.refl _ _, fun _ _ h _ _ => h, fun _ h => h, fun _ h n => absurd h n, fun _ h n => absurd h n, fun _ h => h⟩
variable {T K}
theorem io_mem {l : List Addr} {a : Addr} (h : a ∈ l) : ∃ i : Nat, l[i]? = some a := List.getElem?_of_mem h
theorem Stp.trans {σ : L2.St} {G G1 G2 : Gh} {s s1 s2 : S} {H H1 H2 : Hp} (a : Stp σ G s H G1 s1 H1) (b : Stp σ G1 s1 H1 G2 s2 H2) : Stp σ G s H G2 s2 H2 where
  p := a.p.trans b.p
  keep := fun x o h n no => b.keep x o (a.keep x o h n no) (fun q => by
    rcases a.nio x q n with z | z
    · rw [h] at z; cases z
    · exact no z) fun q => no (a.ow x q)
  dom := fun x h => b.dom x (a.dom x h)
  nio := fun x h n => by
    by_cases q : x ∈ G1.io
    · exact a.nio x q n
    · rcases b.nio x h q with z | z
      · left
        cases e : H x with
        | none => rfl
        | some o => exact absurd z (a.dom x (by rw [e]; simp))
      · exact .inr (a.ow x z)
  nF := fun x h n => by
    by_cases q : G1.F x
    · exact a.nF x q n
    · rcases b.nF x h q with z | z
      · left
        cases e : H x with
        | none => rfl
        | some o => exact absurd z (a.dom x (by rw [e]; simp))
      · exact .inr (a.ow x z)
  ow := fun x h => a.ow x (b.ow x h)

/-! results -/
variable (T K)
/-- a fresh list or dict at a -/
structure Fresh (B : Bs) (s0 : S) (H0 : Hp) (G : Gh) (s : S) (σ : L2.St) (H : Hp) (a : Addr) : Prop where
  nF : ¬ G.F a
  nio : a ∉ G.io
  now : ¬ OwnA s σ a
  bn : B.H a = none
  st : H0 a = none ∨ OwnA s0 σ a
inductive RR (B : Bs) (s0 : S) (H0 : Hp) (G : Gh) (s : S) (σ : L2.St) (H : Hp) : V → R → Prop
  | va {v : V} {d : D} : RV T K G H v d → RR B s0 H0 G s σ H v (.va d)
  | fl {a : Addr} {vs : List V} {l : List D} : H a = some (.lst vs) → RVs T K G H vs l → Fresh B s0 H0 G s σ H a → RR B s0 H0 G s σ H (.ref a) (.fl l)
  | fdK {a : Addr} {vs : List (Key × V)} {l : List (D × D)} : H a = some (.dK vs) → RKs T K G H vs l → Fresh B s0 H0 G s σ H a → RR B s0 H0 G s σ H (.ref a) (.fd false l)
  | fdT {a : Addr} {vs : List (List Key × V)} {l : List (D × D)} : H a = some (.dT vs) → RTs T K G H vs l → Fresh B s0 H0 G s σ H a → RR B s0 H0 G s σ H (.ref a) (.fd true l)
  | own {i : Nat} {v : V} : σ[i]? = some (some v) → RR B s0 H0 G s σ H v (.own i)
inductive RRs (B : Bs) (s0 : S) (H0 : Hp) (G : Gh) (s : S) (σ : L2.St) (H : Hp) : List V → List R → Prop
  | nil : RRs B s0 H0 G s σ H [] []
  | cons {v : V} {r : R} {vs : List V} {rs : List R} : RR T K B s0 H0 G s σ H v r → RRs B s0 H0 G s σ H vs rs → RRs B s0 H0 G s σ H (v :: vs) (r :: rs)
variable {T K}
section
variable {B : Bs} {σ : L2.St} {G0 G1 G2 : Gh} {s0 s1 s2 : S} {H0 H1 H2 : Hp}
theorem Fresh.mono {a : Addr} {o : HO} (h : Fresh B s0 H0 G1 s1 σ H1 a) (e : H1 a = some o) (p : Stp σ G1 s1 H1 G2 s2 H2) : Fresh B s0 H0 G2 s2 σ H2 a ∧ H2 a = some o := by
  have no : ¬ (H1 a = none ∨ OwnA s1 σ a) := fun z => by
    rcases z with z | z
    · rw [e] at z; cases z
    · exact h.now z
  exact ⟨⟨fun z => no (p.nF a z h.nF), fun z => no (p.nio a z h.nio), fun z => h.now (p.ow a z), h.bn, h.st⟩, p.keep a o e h.nio h.now⟩
theorem RR.mono {v : V} {r : R} (h : RR T K B s0 H0 G1 s1 σ H1 v r) (p : Stp σ G1 s1 H1 G2 s2 H2) : RR T K B s0 H0 G2 s2 σ H2 v r := by
  cases h with
  | va q => exact .va (q.mono p.p)
  | fl e q f => exact .fl (f.mono e p).2 (q.mono p.p) (f.mono e p).1
  | fdK e q f => exact .fdK (f.mono e p).2 (q.mono p.p) (f.mono e p).1
  | fdT e q f => exact .fdT (f.mono e p).2 (q.mono p.p) (f.mono e p).1
  | own e => exact .own e
theorem Fresh.back {a : Addr} (h : Fresh B s1 H1 G2 s2 σ H2 a) (p : Stp σ G0 s0 H0 G1 s1 H1) : Fresh B s0 H0 G2 s2 σ H2 a := by
  refine ⟨h.nF, h.nio, h.now, h.bn, ?_⟩
  rcases h.st with z | z
  · left
    cases e : H0 a with
    | none => rfl
    | some o => exact absurd z (p.dom a (by rw [e]; simp))
  · exact .inr (p.ow a z)
theorem RR.back {v : V} {r : R} (h : RR T K B s1 H1 G2 s2 σ H2 v r) (p : Stp σ G0 s0 H0 G1 s1 H1) : RR T K B s0 H0 G2 s2 σ H2 v r := by
  cases h with
  | va q => exact .va q
  | fl e q f => exact .fl e q (f.back p)
  | fdK e q f => exact .fdK e q (f.back p)
  | fdT e q f => exact .fdT e q (f.back p)
  | own e => exact .own e
theorem RRs.mono (p : Stp σ G1 s1 H1 G2 s2 H2) : ∀ {vs : List V} {rs : List R}, RRs T K B s0 H0 G1 s1 σ H1 vs rs → RRs T K B s0 H0 G2 s2 σ H2 vs rs
  | _, _, .nil => .nil
  | _, _, .cons a b => .cons (a.mono p) (RRs.mono p b)
theorem RRs.back (p : Stp σ G0 s0 H0 G1 s1 H1) : ∀ {vs : List V} {rs : List R}, RRs T K B s1 H1 G2 s2 σ H2 vs rs → RRs T K B s0 H0 G2 s2 σ H2 vs rs
  | _, _, .nil => .nil
  | _, _, .cons a b => .cons (a.back p) (RRs.back p b)
end
end
end BB

namespace BB
open PySem PySem.Spec PyProof.Rows L2
abbrev St := L2.St
section
variable (T : Tab) (K : PySem.W.Frag)
inductive VW (G : Gh) (H : Hp) : V → Vw → Prop
  | at {v : V} {d : D} : RV T K G H v d → VW G H v (.at d)
  | ls {a : Addr} {vs : List V} {l : List D} : Rd H a (.lst vs) → RVs T K G H vs l → VW G H (.ref a) (.ls l)
  | sc {a : Addr} {vs : List V} {l : List D} : SqL K H a vs → RVs T K G H vs l → VW G H (.ref a) (.sc l)
  | dcK {a : Addr} {vs : List (Key × V)} {l : List (D × D)} : H a = some (.dK vs) → RKs T K G H vs l → VW G H (.ref a) (.dc false l)
  | dcT {a : Addr} {vs : List (List Key × V)} {l : List (D × D)} : H a = some (.dT vs) → RTs T K G H vs l → VW G H (.ref a) (.dc true l)
/-- a new value or object -/
inductive NewR (G : Gh) (H : Hp) : Hp → V → R → Prop
  | same {v : V} {d : D} : RV T K G H v d → NewR G H H v (.va d)
  | tup {p : Addr} {vs : List V} {ds : List D} : H p = none → RVs T K G H vs ds → NewR G H (upd H p (.tup vs)) (.ref p) (.va (.tup ds))
  | lst {p : Addr} {vs : List V} {ds : List D} : H p = none → RVs T K G H vs ds → NewR G H (upd H p (.lst vs)) (.ref p) (.fl ds)
  | dK {p : Addr} {vs : List (Key × V)} {l : List (D × D)} : H p = none → RKs T K G H vs l → NewR G H (upd H p (.dK vs)) (.ref p) (.fd false l)
  | dT {p : Addr} {vs : List (List Key × V)} {l : List (D × D)} : H p = none → RTs T K G H vs l → NewR G H (upd H p (.dT vs)) (.ref p) (.fd true l)
end
section
variable {T : Tab} {K : PySem.W.Frag} {B : Bs} {G : Gh} {s : S} {σ : L2.St} {H : Hp}
theorem view_ok {s0 : S} {H0 : Hp} {v : V} {r : R} {w : Vw} (hR : Rel T K B G s σ H) (h : RR T K B s0 H0 G s σ H v r) (e : view s r = some w) : VW T K G H v w := by
  cases h with
  | @va v d q =>
    cases q with
    | lst f x y => injection e with e; subst e; exact .ls x y
    | scr x y => injection e with e; subst e; exact .sc (x.imp (fun x => x.2) id) y
    | dcK f x y => injection e with e; subst e; exact .dcK x y
    | dcT f x y => injection e with e; subst e; exact .dcT x y
    | @ref i a x =>
      have e' : vwBx i s.st[i]? = some w := e
      cases q : s.st[i]? with
      | none => rw [q] at e'; cases e'
      | some o =>
        rw [q] at e'
        have z := hR.c.bx _ _ _ q x
        cases o with
        | ls l => injection e' with e'; subst e'; cases z with
          | ls p q => exact .ls (.inl p) q
        | dc t l => injection e' with e'; subst e'; cases z with
          | dcK p q => exact .dcK p q
          | dcT p q => exact .dcT p q
        | ins c fs => injection e' with e'; subst e'; exact .at (.ref x)
    | non => injection e with e; subst e; exact .at .non
    | bl b => injection e with e; subst e; exact .at (.bl b)
    | int b => injection e with e; subst e; exact .at (.int b)
    | str b => injection e with e; subst e; exact .at (.str b)
    | ty b => injection e with e; subst e; exact .at (.ty b)
    | fn b => injection e with e; subst e; exact .at (.fn b)
    | tup a b => injection e with e; subst e; exact .at (.tup a b)
  | fl p q f => injection e with e; subst e; exact .ls (.inl p) q
  | fdK p q f => injection e with e; subst e; exact .dcK p q
  | fdT p q f => injection e with e; subst e; exact .dcT p q
  | @own i v x =>
    have e' : vwSl s.env[i]? = some w := e
    cases q : s.env[i]? with
    | none => rw [q] at e'; cases e'
    | some o =>
      rw [q] at e'
      have z := hR.sl _ _ q
      rw [x] at z
      cases o with
      | no => cases e'
      | xo c fs => cases e'
      | va d => cases e'
      | ol l => injection e' with e'; subst e'; cases z with
        | ol p q => exact .ls (.inl p) q
      | od t l => injection e' with e'; subst e'; cases z with
        | odK p q => exact .dcK p q
        | odT p q => exact .dcT p q
theorem pers_upd {p : Addr} {o : HO} (hp : H p = none) (hR : RelC T K G s.st H) : Pers G H G (upd H p o) :=
  ⟨fun _ _ h => h, fun _ h => h, fun a h => upd_ne (fun z => hR.Fd a h (by rw [z]; exact hp)), fun a xs h => by rw [upd_ne (ne_of_none h hp)]; exact h, fun a o u h => by rw [upd_ne (ne_of_none h hp)]; exact h, fun a fs h => by rw [upd_ne (ne_of_none h hp)]; exact h⟩
theorem ext_upd {p : Addr} {o : HO} (hp : H p = none) (hR : RelC T K G s.st H) : Ext G H G (upd H p o) :=
  ⟨pers_upd hp hR, fun a u h _ => by rw [upd_ne (ne_of_none h hp)]; exact h, fun a h => by
    rw [upd_ne (fun z => h (by rw [z]; exact hp))]; exact h, fun _ h n => absurd h n, fun _ h n => absurd h n⟩
theorem RFs.mono {G' : Gh} {H' : Hp} (p : Pers G H G' H') : ∀ {vs : List (Str × V)} {ds : List (Str × D)}, RFs T K G H vs ds → RFs T K G' H' vs ds
  | _, _, .nil => .nil
  | _, _, .cons r t => .cons (r.mono p) (RFs.mono p t)
theorem ExR.mono {G' : Gh} {H' : Hp} {n : Nat} {fs : List (Str × D)} {cls : Value} {d : Option Addr} (h : ExR T K n fs cls d G H) (p : Pers G H G' H') : ExR T K n fs cls d G' H' :=
  ⟨h.1, h.2.imp id fun ⟨ne, dd, fv, e, e2, r⟩ => ⟨ne, dd, fv, e, p.xd _ _ e2, RFs.mono p r⟩⟩
theorem SlotR.mono {G' : Gh} {H' : Hp} {o : Option (Option V)} {x : Slot} (h : SlotR T K G H o x) (p : Pers G H G' H') (k : ∀ a u, o = some (some (.ref a)) → isOwn x = true → H a = some u → H' a = some u) : SlotR T K G' H' o x := by
  cases h with
  | no => exact .no _
  | va q => exact .va (q.mono p)
  | ol e q => exact .ol (k _ _ rfl rfl e) (q.mono p)
  | odK e q => exact .odK (k _ _ rfl rfl e) (q.mono p)
  | odT e q => exact .odT (k _ _ rfl rfl e) (q.mono p)
  | xo e q => exact .xo e (q.mono p)
theorem BxR.mono {G' : Gh} {H' : Hp} {a : Addr} {x : Bx} (h : BxR T K G H a x) (p : Pers G H G' H') (k : ∀ u, H a = some u → H' a = some u) : BxR T K G' H' a x := by
  cases h with
  | ls e q => exact .ls (k _ e) (q.mono p)
  | dcK e q => exact .dcK (k _ e) (q.mono p)
  | dcT e q => exact .dcT (k _ e) (q.mono p)
  | ins e q => exact .ins (k _ e) (q.mono p)
theorem BxR.there {a : Addr} {x : Bx} (h : BxR T K G H a x) : ∃ u, H a = some u := by
  cases h <;> exact ⟨_, by assumption⟩
theorem SlotR.there {o : Option (Option V)} {x : Slot} (h : SlotR T K G H o x) (hx : isOwn x = true) : ∃ a u, o = some (some (.ref a)) ∧ H a = some u := by
  cases h <;> first | (cases hx; done) | exact ⟨_, _, rfl, by assumption⟩
theorem Rel.ownThere (hR : Rel T K B G s σ H) {a : Addr} (h : OwnA s σ a) : ∃ u, H a = some u := by
  obtain ⟨i, ⟨x, e, ho⟩, e2⟩ := h
  obtain ⟨a', u, e3, e4⟩ := (hR.sl i x e).there ho
  rw [e2] at e3
  cases e3
  exact ⟨u, e4⟩
theorem RelC.ioThere (hR : RelC T K G s.st H) {a : Addr} (h : a ∈ G.io) : ∃ u, H a = some u := by
  obtain ⟨i, e⟩ := io_mem h
  have hi : i < s.st.length := by rw [hR.len]; exact (List.getElem?_eq_some_iff.mp e).1
  exact (hR.bx i _ a (List.getElem?_eq_getElem hi) e).there
/-- a new object laid -/
theorem Rel.laid {p : Addr} {o : HO} (hR : Rel T K B G s σ H) (hp : H p = none) : Rel T K B G s σ (upd H p o) := by
  have P : Pers G H G (upd H p o) := pers_upd hp hR.c
  have k : ∀ (a : Addr) (u : HO), H a = some u → (upd H p o) a = some u := fun a u e => by rw [upd_ne (ne_of_none e hp)]; exact e
  refine ⟨hR.len, fun i x e => (hR.sl i x e).mono P fun a u _ _ q => k a u q, hR.own1, hR.own2, ⟨hR.c.len, fun i x a e1 e2 => (hR.c.bx i x a e1 e2).mono P fun u q => k a u q, hR.c.nd, hR.c.ioF, fun a h z => ?_⟩, ?_⟩
  · have := hR.c.Fd a h
    cases e : H a with
    | none => exact this e
    | some u => rw [k a u e] at z; cases z
  · refine ⟨hR.b.p.trans P, fun a u e n => k a u (hR.b.keep a u e n), fun a e z => ?_, hR.b.nio, hR.b.nF⟩
    have := hR.b.dom a e
    cases q : H a with
    | none => exact this q
    | some u => rw [k a u q] at z; cases z
theorem Stp.laid {p : Addr} {o : HO} (hR : Rel T K B G s σ H) (hp : H p = none) : Stp σ G s H G s (upd H p o) :=
  let e := ext_upd (o := o) hp hR.c
  ⟨e.p, fun a u h n _ => e.keep a u h n, e.dom, fun a h n => .inl (e.nio a h n), fun a h n => .inl (e.nF a h n), fun _ h => h⟩
theorem Rel.fresh {p : Addr} {o : HO} (hR : Rel T K B G s σ H) (hp : H p = none) : Fresh B s H G s σ (upd H p o) p := by
  refine ⟨fun z => hR.c.Fd p z hp, fun z => ?_, fun z => ?_, ?_, .inl hp⟩
  · obtain ⟨u, e⟩ := hR.c.ioThere z; rw [hp] at e; cases e
  · obtain ⟨u, e⟩ := hR.ownThere z; rw [hp] at e; cases e
  · cases e : B.H p with
    | none => rfl
    | some u => exact absurd hp (hR.b.dom p (by rw [e]; simp))
theorem new_ok {H' : Hp} {v : V} {r : R} (hR : Rel T K B G s σ H) (n : NewR T K G H H' v r) : Stp σ G s H G s H' ∧ Rel T K B G s σ H' ∧ RR T K B s H G s σ H' v r := by
  cases n with
  | same q => exact ⟨.refl _ _ _ _, hR, .va q⟩
  | tup hp q => exact ⟨.laid hR hp, hR.laid hp, .va (.tup (.inl (.inl upd_same)) (q.mono (pers_upd hp hR.c)))⟩
  | lst hp q => exact ⟨.laid hR hp, hR.laid hp, .fl upd_same (q.mono (pers_upd hp hR.c)) (hR.fresh hp)⟩
  | dK hp q => exact ⟨.laid hR hp, hR.laid hp, .fdK upd_same (q.mono (pers_upd hp hR.c)) (hR.fresh hp)⟩
  | dT hp q => exact ⟨.laid hR hp, hR.laid hp, .fdT upd_same (q.mono (pers_upd hp hR.c)) (hR.fresh hp)⟩
end
end BB

namespace BB
open PySem PySem.Spec PyProof.Rows L2
section
variable {T : Tab} {K : PySem.W.Frag} {G : Gh} {H : Hp}
theorem RV.scal {v x : V} {d : D} (h : RV T K G H v d) (e : scalD d = some x) : v = x := by
  cases h <;> first | (cases e; done) | (injection e)
theorem VW.scal {v x : V} {d : Vw} (h : VW T K G H v d) (e : d.scal = some x) : v = x := by
  cases h with
  | «at» q => exact q.scal e
  | ls _ _ => cases e
  | sc _ _ => cases e
  | dcK _ _ => cases e
  | dcT _ _ => cases e
mutual
theorem dp_of : ∀ (d : D) {v : V} {p : PyData}, RV T K G H v d → toP d = some p → Dp K H v p
  | .non, _, _, .non, e => by injection e with e; subst e; exact .non
  | .bl b, _, _, .bl _, e => by injection e with e; subst e; exact .bl b
  | .int b, _, _, .int _, e => by injection e with e; subst e; exact .int b
  | .str b, _, _, .str _, e => by injection e with e; subst e; exact .str b
  | .tup l, _, _, .tup q r, e => by
    unfold toP at e
    split at e
    · rename_i ps h; injection e with e; subst e; exact .tup q (dps_of l r h)
    · cases e
  | .lst l, _, _, .lst f q r, e => by
    unfold toP at e
    split at e
    · rename_i ps h; injection e with e; subst e; exact .lst (.inl q) (dps_of l r h)
    · cases e
theorem dps_of : ∀ (ds : List D) {vs : List V} {ps : List PyData}, RVs T K G H vs ds → toPs ds = some ps → DpAll K H vs ps
  | [], _, _, .nil, e => by injection e with e; subst e; exact .nil
  | d :: ds, _, _, .cons r t, e => by
    unfold toPs at e
    split at e
    · rename_i p ps h1 h2; injection e with e; subst e; exact .cons (dp_of d r h1) (dps_of ds t h2)
    · cases e
end
theorem VW.dp {v : V} {p : PyData} {d : Vw} (h : VW T K G H v d) (e : d.toP = some p) : Dp K H v p := by
  cases h with
  | «at» q => exact dp_of _ q e
  | ls q r =>
    unfold Vw.toP at e
    split at e
    · rename_i h1; cases h1
    · rename_i l h1
      injection h1 with h1; subst h1
      split at e
      · rename_i ps h2; injection e with e; subst e; exact .lst (.inl q) (dps_of _ r h2)
      · cases e
    · cases e
    · cases e
  | sc _ _ => cases e
  | dcK _ _ => cases e
  | dcT _ _ => cases e
theorem flats_of : ∀ {ds : List D} {vs xs : List V}, RVs T K G H vs ds → flats ds = some xs → vs = xs ∧ xs.all flatV = true
  | [], _, _, .nil, e => by injection e with e; subst e; exact ⟨rfl, rfl⟩
  | d :: ds, _, _, .cons r t, e => by
    unfold flats at e
    split at e
    · rename_i v vs h1 h2
      split at e
      · rename_i hf
        injection e with e; subst e
        obtain ⟨a, b⟩ := flats_of t h2
        have := r.scal h1
        subst this; subst a
        exact ⟨rfl, by rw [List.all_cons, hf, b]; rfl⟩
      · cases e
    · cases e
theorem RVs.length : ∀ {vs : List V} {ds : List D}, RVs T K G H vs ds → vs.length = ds.length
  | _, _, .nil => rfl
  | _, _, .cons _ t => by rw [List.length_cons, List.length_cons, RVs.length t]
theorem RVs.append : ∀ {vs ws : List V} {ds es : List D}, RVs T K G H vs ds → RVs T K G H ws es → RVs T K G H (vs ++ ws) (ds ++ es)
  | _, _, _, _, .nil, t => t
  | _, _, _, _, .cons r s, t => .cons r (RVs.append s t)
theorem RVs.drop : ∀ {vs : List V} {ds : List D} (n : Nat), RVs T K G H vs ds → RVs T K G H (vs.drop n) (ds.drop n)
  | _, _, 0, h => h
  | _, _, _ + 1, .nil => .nil
  | _, _, n + 1, .cons _ t => RVs.drop n t
theorem RVs.take : ∀ {vs : List V} {ds : List D} (n : Nat), RVs T K G H vs ds → RVs T K G H (vs.take n) (ds.take n)
  | _, _, 0, _ => .nil
  | _, _, _ + 1, .nil => .nil
  | _, _, n + 1, .cons r t => .cons r (RVs.take n t)
theorem RVs.get : ∀ {vs : List V} {ds : List D} {i : Nat} {d : D}, RVs T K G H vs ds → ds[i]? = some d → ∃ v, vs[i]? = some v ∧ RV T K G H v d
  | _, _, _, _, .nil, e => by cases e
  | _, _, 0, _, .cons r t, e => by injection e with e; subst e; exact ⟨_, rfl, r⟩
  | _, _, i + 1, _, .cons r t, e => by
    obtain ⟨v, a, b⟩ := RVs.get (i := i) t (by simpa using e)
    exact ⟨v, by simpa using a, b⟩
theorem RVs.cut {vs : List V} {ds : List D} (lo hi : Option Int) (h : RVs T K G H vs ds) : RVs T K G H (cutV vs lo hi) (cutD ds lo hi) := by
  unfold cutV cutD
  rw [h.length]
  exact (h.drop _).take _
theorem RVs.ix {vs : List V} {ds : List D} {i : Int} {d : D} (h : RVs T K G H vs ds) (e : atI ds i = some d) : ∃ v, atI vs i = some v ∧ RV T K G H v d := by
  unfold atI at *
  rw [h.length]
  cases q : ixN ds.length i with
  | none => rw [q] at e; cases e
  | some j =>
    rw [q] at e
    exact h.get e
theorem RVs.ints : ∀ {vs : List V} {ds : List D} {ns : List Int}, RVs T K G H vs ds → intsD ds = some ns → vs = ns.map V.int
  | _, _, _, .nil, e => by injection e with e; subst e; rfl
  | _, _, _, .cons (d := d) r t, e => by
    unfold intsD at e
    split at e
    · rename_i i is h1 h2
      injection e with e; subst e
      rw [RVs.ints t h2]
      cases d <;> first | (cases h1; done) | (injection h1 with h1; subst h1; cases r; rfl)
    · cases e
theorem RVs.bools : ∀ {vs : List V} {ds : List D} {ns : List Bool}, RVs T K G H vs ds → blsD ds = some ns → vs = ns.map V.bl
  | _, _, _, .nil, e => by injection e with e; subst e; rfl
  | _, _, _, .cons (d := d) r t, e => by
    unfold blsD at e
    split at e
    · rename_i i is h1 h2
      injection e with e; subst e
      rw [RVs.bools t h2]
      cases d <;> first | (cases h1; done) | (injection h1 with h1; subst h1; cases r; rfl)
    · cases e
theorem RVs.texts : ∀ {vs : List V} {ds : List D} {ns : List Str}, RVs T K G H vs ds → strsD ds = some ns → vs = ns.map V.str
  | _, _, _, .nil, e => by injection e with e; subst e; rfl
  | _, _, _, .cons (d := d) r t, e => by
    unfold strsD at e
    split at e
    · rename_i i is h1 h2
      injection e with e; subst e
      rw [RVs.texts t h2]
      cases d <;> first | (cases h1; done) | (injection h1 with h1; subst h1; cases r; rfl)
    · cases e
theorem RVs.ofTexts : ∀ (zs : List Str), RVs T K G H (zs.map V.str) (zs.map D.str)
  | [] => .nil
  | z :: zs => .cons (.str z) (RVs.ofTexts zs)
end

/-! operators -/
def rCatR : R2 := fun x y H Q => ∃ l b xs zs, x = .ref l ∧ y = .ref b ∧ Rd H l (.lst xs) ∧ Rd H b (.lst zs) ∧ xs.length + zs.length ≤ sizeLine ∧ ∀ p, H p = none → Q (.ref p) (upd H p (.lst (xs ++ zs)))
def rMulS : R2 := fun x y H Q => ∃ z k, x = .str z ∧ y = .int k ∧ 0 ≤ k ∧ k ≤ 16777216 ∧ z.length * k.toNat ≤ 16777216 ∧ Q (.str (Txt.mul z k)) H
def rNo : R2 := fun _ _ _ _ => False
section
variable {X : Cx}
theorem op_mulS : OpR X (binaryOp .Mult) rMulS := by
  intro pins s σ H x y v u Q I rx ry h
  obtain ⟨i, k, rfl, rfl, h1, h2, h3, q⟩ := h
  obtain ⟨t, rfl⟩ := rx
  obtain ⟨t', rfl⟩ := ry
  refine SB.mul ⟨?_, fun n1 n2 z => ?_, fun n1 n2 => ?_⟩ fun t' tk => ⟨.str _, H, I.tok _, ⟨_, rfl⟩, q⟩
  · rw [decide_eq_false (by omega), decide_eq_false (by omega)]; rfl
  · have h4 : (i.length : Int) * k ≤ 16777216 := by
      have e : (i.length : Int) * k = ((i.length * k.toNat : Nat) : Int) := by
        rw [Int.natCast_mul, Int.toNat_of_nonneg h1]
      rw [e]; omega
    have h5 : (i.length : Int) ≤ (2 ^ 63 - 1) / k := by
      rw [Int.le_ediv_iff_mul_le (by omega)]
      omega
    omega
  · exact decide_eq_false (by rw [sizeLine_eq]; omega)
theorem op_catR : OpR X (binaryOp .Add) rCatR := by
  intro pins s σ H x y v u Q I rx ry h
  obtain ⟨l, b, xs, zs, rfl, rfl, hH, hB, hz, q⟩ := h
  cases rx
  cases ry
  obtain ⟨z, its, n, r, e⟩ := hH.ok I.hok
  obtain ⟨z2, its2, n2, r2, e2⟩ := hB.ok I.hok
  have hl := r.length
  have hl2 := r2.length
  refine PySem.P.add_list e e2 ?_ (by rw [List.size_toArray, List.size_toArray]; omega)
  have ea : its.toArray ++ its2.toArray = (its ++ its2).toArray := by simp
  rw [ea]
  exact ⟨.ref _, _, I.lnew (t' := s.toks) (r.append r2) (by rw [List.length_append]; omega), rfl, q _ I.fresh⟩
theorem op_no {f : Value → Value → Sem Value} : OpR X f rNo := by
  intro pins s σ H x y v u Q I rx ry h
  exact h.elim
def rBin (K : PySem.W.Frag) : Operator → R2
  | .Add => fun x y H Q => rI0 (fun i j => .int (i + j)) x y H Q ∨ ((∃ i j, x = .str i ∧ y = .str j ∧ i.length + j.length ≤ sizeLine ∧ Q (.str (i ++ j)) H) ∨ (rCatR x y H Q ∨ rCatA K x y H Q))
  | .Sub => rI0 fun i j => .int (i - j)
  | .Mult => fun x y H Q => rI CMul (fun i j => .int (i * j)) x y H Q ∨ rMulS x y H Q
  | .FloorDiv => rI CDiv fun i j => .int (i / j)
  | .Mod => rI (fun _ j => 0 < j) fun i j => .int (i % j)
  | .Pow => rI CPow fun i j => .int (i ^ j.toNat)
  | _ => rNo
theorem opr_bin (o : Operator) : OpR X (binaryOp o) (rBin X.K o) := by
  cases o with
  | Add => exact op_add.or (op_add_str.or (op_catR.or op_catA))
  | Sub => exact op_sub
  | Mult => exact op_mul.or op_mulS
  | FloorDiv => exact op_fdiv
  | Mod => exact op_mod
  | Pow => exact op_pow
  | _ => exact op_no
def rCmp (K : PySem.W.Frag) : CmpOp → R2
  | .Eq => fun x y H Q => rEq x y H Q ∨ rEqD K x y H Q
  | .NotEq => fun x y H Q => rNe x y H Q ∨ rNeD K x y H Q
  | .Lt => rI0 fun i j => .bl (decide (i < j))
  | .LtE => rI0 fun i j => .bl (decide (i ≤ j))
  | .Gt => rI0 fun i j => .bl (decide (j < i))
  | .GtE => rI0 fun i j => .bl (decide (j ≤ i))
  | .In => fun x y H Q => (∃ (c : Nat) (z : Str), x = .str ⟨#[c]⟩ ∧ y = .str z ∧ Q (.bl (decide (c ∈ z.cps.toList))) H) ∨
      ((∃ i j, x = .str i ∧ y = .str j ∧ Q (.bl (!(Builtin.Str.occurrences j i 0 j.length 1).isEmpty)) H) ∨ rIn K false x y H Q)
  | .NotIn => fun x y H Q => (∃ (c : Nat) (z : Str), x = .str ⟨#[c]⟩ ∧ y = .str z ∧ Q (.bl (!decide (c ∈ z.cps.toList))) H) ∨
      ((∃ i j, x = .str i ∧ y = .str j ∧ Q (.bl (!(!(Builtin.Str.occurrences j i 0 j.length 1).isEmpty))) H) ∨ rIn K true x y H Q)
  | .Is => fun x y H Q => (y = .non ∧ Q (.bl (decide (x = .non))) H) ∨ (∃ a b, x = .bl a ∧ y = .bl b ∧ Q (.bl (decide (a = b))) H)
  | .IsNot => fun x y H Q => (y = .non ∧ Q (.bl (!decide (x = .non))) H) ∨ (∃ a b, x = .bl a ∧ y = .bl b ∧ Q (.bl (!decide (a = b))) H)
theorem opr_cmp (hu : X.A.units + 64 < cLine) (o : CmpOp) : OpR X (compareOp o) (rCmp X.K o) := by
  cases o with
  | Eq => exact op_eq.or (op_eqD hu)
  | NotEq => exact op_ne.or (op_neD hu)
  | Lt => exact op_lt
  | LtE => exact op_le
  | Gt => exact op_gt
  | GtE => exact op_ge
  | In => exact op_in_sign.or (op_in_str.or op_in_seq)
  | NotIn => exact op_notIn_sign.or (op_notin_str.or op_notIn_seq)
  | Is => exact op_isN.or op_is_bl
  | IsNot => exact op_notN.or op_isnot_bl
end
section
variable {T : Tab} {K : PySem.W.Frag} {G : Gh} {H : Hp} {Q : VK} {x y : V} {u v : Vw}
theorem one_of {z : Str} {c : Nat} (h : z.cps.toList = [c]) : z = ⟨#[c]⟩ := by
  obtain ⟨a⟩ := z
  have : a = #[c] := by
    apply Array.ext'
    rw [h]
  rw [this]
theorem bin_ok {o : Operator} {r : R} (e : binV o u v = some r) (hx : VW T K G H x u) (hy : VW T K G H y v) (q : ∀ H' w, NewR T K G H H' w r → Q w H') : rBin K o x y H Q := by
  unfold binV at e
  split at e
  · injection e with e; subst e
    cases hx with | «at» a => cases a with | int i => cases hy with | «at» b => cases b with | int j => exact .inl ⟨_, _, rfl, rfl, q _ _ (.same (.int _))⟩
  · split at e
    · rename_i hz
      injection e with e; subst e
      cases hx with | «at» a => cases a with | str i => cases hy with | «at» b => cases b with | str j => exact .inr (.inl ⟨_, _, rfl, rfl, hz, q _ _ (.same (.str _))⟩)
    · cases e
  · split at e
    · rename_i hz
      injection e with e; subst e
      cases hx with | ls a b => cases hy with | ls c d => exact .inr (.inr (.inl ⟨_, _, _, _, rfl, rfl, a, c, by rw [b.length, d.length]; exact hz, fun p hp => q _ _ (.lst hp (b.append d))⟩))
    · cases e
  · split at e
    · rename_i hz
      injection e with e; subst e
      cases hx with | «at» a => cases a with | tup s1 r1 => cases hy with | «at» b => cases b with | tup s2 r2 =>
        refine .inr (.inr (.inr ⟨_, _, _, _, rfl, rfl, s1, s2, by rw [r1.length, r2.length]; exact hz, fun h => ?_, fun h h2 => ?_, fun h h2 p hp => q _ _ (.tup hp (r1.append r2))⟩))
        · subst h; cases r1; exact q _ _ (.same (.tup s2 r2))
        · subst h2; cases r2; rw [List.append_nil] at q; exact q _ _ (.same (.tup s1 r1))
    · cases e
  · injection e with e; subst e
    cases hx with | «at» a => cases a with | int i => cases hy with | «at» b => cases b with | int j => exact ⟨_, _, rfl, rfl, q _ _ (.same (.int _))⟩
  · split at e
    · rename_i hz
      injection e with e; subst e
      cases hx with | «at» a => cases a with | int i => cases hy with | «at» b => cases b with | int j => exact .inl ⟨_, _, rfl, rfl, hz, q _ _ (.same (.int _))⟩
    · cases e
  · split at e
    · rename_i hz
      injection e with e; subst e
      cases hx with | «at» a => cases a with | str i => cases hy with | «at» b => cases b with | int j => exact .inr ⟨_, _, rfl, rfl, hz.1, hz.2.1, hz.2.2, q _ _ (.same (.str _))⟩
    · cases e
  all_goals first
    | (split at e
       · rename_i hz
         injection e with e; subst e
         cases hx with | «at» a => cases a with | int i => cases hy with | «at» b => cases b with | int j => exact ⟨_, _, rfl, rfl, hz, q _ _ (.same (.int _))⟩
       · cases e)
    | (cases e)
theorem eq_ok {t : Bool} (e : eqW u v = some t) (hx : VW T K G H x u) (hy : VW T K G H y v) : (scal x y = true ∧ decide (x = y) = t) ∨ ∃ d e', Dp K H x d ∧ Dp K H y e' ∧ SeqAt.shaped d = true ∧ SeqAt.shaped e' = true ∧ PyData.eqv d e' = t := by
  unfold eqW at e
  split at e
  · rename_i a b h1 h2
    split at e
    · rename_i hs
      injection e with e; subst e
      rw [hx.scal h1, hy.scal h2]
      exact .inl ⟨hs, rfl⟩
    · cases e
  · split at e
    · rename_i p q h1 h2
      split at e
      · rename_i hs
        injection e with e; subst e
        exact .inr ⟨p, q, hx.dp h1, hy.dp h2, hs.1, hs.2, rfl⟩
      · cases e
    · cases e
theorem in_ok {t : Bool} (e : inW u v = some t) (hx : VW T K G H x u) (hy : VW T K G H y v) : (∃ (c : Nat) (z : Str), x = .str ⟨#[c]⟩ ∧ y = .str z ∧ decide (c ∈ z.cps.toList) = t) ∨
      ((∃ i j, x = .str i ∧ y = .str j ∧ (!(Builtin.Str.occurrences j i 0 j.length 1).isEmpty) = t) ∨ (∃ p xs, y = .ref p ∧ (SqL K H p xs ∨ SqT K H p xs) ∧ flatV x = true ∧ xs.all flatV = true ∧ inV x xs = t)) := by
  unfold inW at e
  split at e
  · rename_i i j
    cases hx with | «at» a => cases a with | str i => cases hy with | «at» b => cases b with | str j =>
    split at e
    · rename_i c hc
      injection e with e; subst e
      rw [one_of hc]
      exact .inl ⟨c, _, rfl, rfl, rfl⟩
    · injection e with e; subst e
      exact .inr (.inl ⟨_, _, rfl, rfl, rfl⟩)
  · split at e
    · rename_i a b h1 h2
      split at e
      · rename_i hf
        injection e with e; subst e
        cases hx with | «at» p => cases hy with | «at» q => cases q with | tup s r =>
          obtain ⟨rfl, al⟩ := flats_of r h2
          rw [p.scal h1]
          exact .inr (.inr ⟨_, _, rfl, .inr s, hf, al, rfl⟩)
      · cases e
    · cases e
  · split at e
    · rename_i a b h1 h2
      split at e
      · rename_i hf
        injection e with e; subst e
        cases hx with | «at» p => cases hy with | ls s r =>
          obtain ⟨rfl, al⟩ := flats_of r h2
          rw [p.scal h1]
          exact .inr (.inr ⟨_, _, rfl, .inl (.inl s), hf, al, rfl⟩)
      · cases e
    · cases e
  · cases e
theorem is_ok {t : Bool} (e : isW u v = some t) (hx : VW T K G H x u) (hy : VW T K G H y v) : (y = .non ∧ decide (x = .non) = t) ∨ (∃ a b, x = .bl a ∧ y = .bl b ∧ decide (a = b) = t) := by
  unfold isW at e
  split at e
  · cases hy with | «at» b => cases b with | non =>
    refine .inl ⟨rfl, ?_⟩
    split at e
    · injection e with e; subst e
      cases hx with | «at» p => cases p; rfl
    · rename_i d hd
      injection e with e; subst e
      cases hx with | «at» p => cases p <;> first | rfl | exact (hd rfl).elim
    · injection e with e; subst e
      cases hx; rfl
    · injection e with e; subst e
      cases hx <;> rfl
    · cases e
  · cases hy with | «at» b => cases b with | bl j =>
    split at e
    · injection e with e; subst e
      cases hx with | «at» p => cases p with | bl i => exact .inr ⟨_, _, rfl, rfl, rfl⟩
    · cases e
  · cases e
theorem cmp_ok {o : CmpOp} {t : Bool} (e : cmpV o u v = some t) (hx : VW T K G H x u) (hy : VW T K G H y v) (q : Q (.bl t) H) : rCmp K o x y H Q := by
  unfold cmpV at e
  cases o with
  | Eq =>
    rcases eq_ok e hx hy with ⟨a, b⟩ | ⟨d, e', a, b, c, f, g⟩
    · subst b; exact .inl ⟨a, q⟩
    · subst g; exact .inr ⟨d, e', a, b, c, f, q⟩
  | NotEq =>
    cases h : eqW u v with
    | none => rw [h] at e; cases e
    | some t' =>
      rw [h] at e
      injection e with e
      subst e
      rcases eq_ok h hx hy with ⟨a, b⟩ | ⟨d, e', a, b, c, f, g⟩
      · subst b; exact .inl ⟨a, q⟩
      · subst g; exact .inr ⟨d, e', a, b, c, f, q⟩
  | In =>
    rcases in_ok e hx hy with ⟨c, z, a, b, g⟩ | ⟨i, j, a, b, g⟩ | ⟨p, xs, a, b, c, d, g⟩
    · subst g; exact .inl ⟨c, z, a, b, q⟩
    · subst g; exact .inr (.inl ⟨i, j, a, b, q⟩)
    · subst g; exact .inr (.inr ⟨p, xs, a, b, c, d, q⟩)
  | NotIn =>
    cases h : inW u v with
    | none => rw [h] at e; cases e
    | some t' =>
      rw [h] at e
      injection e with e
      subst e
      rcases in_ok h hx hy with ⟨c, z, a, b, g⟩ | ⟨i, j, a, b, g⟩ | ⟨p, xs, a, b, c, d, g⟩
      · subst g; exact .inl ⟨c, z, a, b, q⟩
      · subst g; exact .inr (.inl ⟨i, j, a, b, q⟩)
      · subst g; exact .inr (.inr ⟨p, xs, a, b, c, d, q⟩)
  | Is =>
    rcases is_ok e hx hy with ⟨a, b⟩ | ⟨a, b, c, d, g⟩
    · subst b; exact .inl ⟨a, q⟩
    · subst g; exact .inr ⟨a, b, c, d, q⟩
  | IsNot =>
    cases h : isW u v with
    | none => rw [h] at e; cases e
    | some t' =>
      rw [h] at e
      injection e with e
      subst e
      rcases is_ok h hx hy with ⟨a, b⟩ | ⟨a, b, c, d, g⟩
      · subst b; exact .inl ⟨a, q⟩
      · subst g; exact .inr ⟨a, b, c, d, q⟩
  | Lt | LtE | Gt | GtE =>
    all_goals
      dsimp only at e
      split at e
      · injection e with e; subst e
        cases hx with | «at» a => cases a with | int i => cases hy with | «at» b => cases b with | int j => exact ⟨_, _, rfl, rfl, q⟩
      · cases e
end
end BB

namespace BB
open PySem PySem.Spec PyProof.Rows L2
section
variable (T : Tab) (K : PySem.W.Frag) (B : Bs) (W : WX)
abbrev PP (α β : Type) := S → Hp → Gh → S → St → Hp → β → α → Prop
def At {α β : Type} (P : PP α β) (o : Oc α) (G : Gh) (s : S) (σ : St) (H : Hp) (Q : β → Hp → Prop) : Prop := match o with
  | .ok a s' => ∀ G' H' b, Stp σ G s H G' s' H' → Rel T K B G' s' σ H' → P s H G' s' σ H' b a → Q b H'
  | .ex n fs s' => ∀ G' H' cls d, Pers G H G' H' → Rel T K B G' s' σ H' → ExR T K n fs cls d G' H' → W cls d σ H'
  | .bad => False
def tG {α β : Type} (P : PP α β) (c : S → Oc α) : St → Hp → (β → Hp → Prop) → Prop := fun σ H Q => ∃ G s, Rel T K B G s σ H ∧ At T K B W P (c s) G s σ H Q
def PR : PP R V := fun s0 H0 G s σ H v r => RR T K B s0 H0 G s σ H v r
def PRs : PP (List R) (List V) := fun s0 H0 G s σ H v r => RRs T K B s0 H0 G s σ H v r
def PB : PP Bool Bool := fun _ _ _ _ _ _ b a => b = a
def PO1 : PP (Option Int) (Option Int) := fun _ _ _ _ _ _ b a => b = a
abbrev tE (c : S → Oc R) : TE := tG T K B W (PR T K B) c
abbrev tL (c : S → Oc (List R)) : TA := tG T K B W (PRs T K B) c
abbrev tT (c : S → Oc Bool) : TT := tG T K B W PB c
end
structure Back {α β : Type} (P : PP α β) : Prop where
  h : ∀ {σ : St} {G0 G1 G2 : Gh} {s0 s1 s2 : S} {H0 H1 H2 : Hp} {b : β} {a : α}, P s1 H1 G2 s2 σ H2 b a → Stp σ G0 s0 H0 G1 s1 H1 → P s0 H0 G2 s2 σ H2 b a
section
variable {T : Tab} {K : PySem.W.Frag} {B : Bs} {W : WX}
theorem back_R : Back (PR T K B) := ⟨fun h p => RR.back h p⟩
theorem back_Rs : Back (PRs T K B) := ⟨fun h p => RRs.back p h⟩
theorem back_B : Back PB := ⟨fun h _ => h⟩
theorem back_O : Back PO1 := ⟨fun h _ => h⟩
theorem Stp.pers {σ : St} {G G' : Gh} {s s' : S} {H H' : Hp} (p : Stp σ G s H G' s' H') : Pers G H G' H' := p.p
theorem at_bind {α1 α2 β1 β2 : Type} {P1 : PP α1 β1} {P2 : PP α2 β2} {o : Oc α1} {f : α1 → S → Oc α2} {G0 G : Gh} {s0 s : S} {σ : St} {H0 H : Hp} {Q : β2 → Hp → Prop} {Q1 : β1 → Hp → Prop}
    (h : At T K B W P2 (o.bind f) G0 s0 σ H0 Q) (p0 : Stp σ G0 s0 H0 G s H) (k : ∀ a s1 G1 H1 b1, Stp σ G s H G1 s1 H1 → Stp σ G0 s0 H0 G1 s1 H1 → Rel T K B G1 s1 σ H1 → P1 s H G1 s1 σ H1 b1 a → At T K B W P2 (f a s1) G0 s0 σ H0 Q → Q1 b1 H1) : At T K B W P1 o G s σ H Q1 := by
  cases o with
  | ok a s1 => exact fun G1 H1 b1 st R1 p1 => k a s1 G1 H1 b1 st (p0.trans st) R1 p1 h
  | ex n fs s1 => exact fun G' H' cls d p R x => h G' H' cls d (p0.p.trans p) R x
  | bad => exact h
theorem at_start {α β : Type} {P : PP α β} {o : Oc α} {G : Gh} {s : S} {σ : St} {H : Hp} : Stp σ G s H G s H := .refl _ _ _ _
/-- a tail call -/
theorem at_tail {α β : Type} {P : PP α β} (hb : Back P) {o : Oc α} {G0 G : Gh} {s0 s : S} {σ : St} {H0 H : Hp} {Q : β → Hp → Prop} (h : At T K B W P o G0 s0 σ H0 Q) (p0 : Stp σ G0 s0 H0 G s H) : At T K B W P o G s σ H Q := by
  cases o with
  | ok a s1 => exact fun G1 H1 b1 st R1 p1 => h G1 H1 b1 (p0.trans st) R1 (hb.h p1 p0)
  | ex n fs s1 => exact fun G' H' cls d p R x => h G' H' cls d (p0.p.trans p) R x
  | bad => exact h
theorem pe_imp {X : Cx} {e : Expr} {t t' : TE} (h : PE X e t) (i : ∀ σ H Q, t' σ H Q → t σ H Q) : PE X e t' := ⟨fun pins s σ H Q I q => h.run pins s σ H Q I (i σ H Q q)⟩
theorem pt_imp {X : Cx} {e : Expr} {t t' : TT} (h : PT X e t) (i : ∀ σ H Q, t' σ H Q → t σ H Q) : PT X e t' := ⟨fun pins s σ H Q I q => h.run pins s σ H Q I (i σ H Q q)⟩
theorem pw_imp {X : Cx} {e : Expr} {t t' : TT} (h : PW X e t) (i : ∀ σ H Q, t' σ H Q → t σ H Q) : PW X e t' := ⟨fun wh pins s σ H Q I q => h.run wh pins s σ H Q I (i σ H Q q)⟩
theorem pa_imp {X : Cx} {e : List Expr} {t t' : TA} (h : PA X e t) (i : ∀ σ H Q, t' σ H Q → t σ H Q) : PA X e t' := ⟨fun pos pins s σ H Q I q => h.run pos pins s σ H Q I (i σ H Q q)⟩
theorem ps_imp {X : Cx} {e : Stmt} {t t' : TS} (h : PS X e t) (i : ∀ D σ H, t' D σ H → t D σ H) : PS X e t' := ⟨fun pins s σ H D I q => h.run pins s σ H D I (i D σ H q)⟩
theorem pss_imp {X : Cx} {e : List Stmt} {t t' : TS} (h : PSs X e t) (i : ∀ D σ H, t' D σ H → t D σ H) : PSs X e t' := ⟨fun pins s σ H D I q => h.run pins s σ H D I (i D σ H q)⟩

/-! keeping results: the fresh ones are frozen -/
section keep
variable {σ : St} {G G0 : Gh} {s s0 : S} {H H0 : Hp}
def addF (G : Gh) (A : Addr → Prop) : Gh := ⟨G.io, fun a => G.F a ∨ A a⟩
/-- freezing fresh objects -/
theorem freeze {A : Addr → Prop} (hR : Rel T K B G s σ H) (p : Stp σ G0 s0 H0 G s H) (hA : ∀ a, A a → (∃ o, H a = some o) ∧ Fresh B s0 H0 G s σ H a) :
    Stp σ G0 s0 H0 (addF G A) s H ∧ Rel T K B (addF G A) s σ H ∧ Pers G H (addF G A) H := by
  have P : Pers G H (addF G A) H := ⟨fun _ _ h => h, fun _ h => .inl h, fun _ _ => rfl, fun _ _ h => h, fun _ _ _ h => h, fun _ _ h => h⟩
  refine ⟨⟨p.p.trans P, p.keep, p.dom, p.nio, fun a h n => ?_, p.ow⟩, ⟨hR.len, fun i x e => (hR.sl i x e).mono P fun _ _ _ _ q => q, fun a h => ⟨fun z => ?_, (hR.own1 a h).2⟩, hR.own2, ⟨hR.c.len, fun i o a e1 e2 => (hR.c.bx i o a e1 e2).mono P fun _ q => q, hR.c.nd, fun a h z => ?_, fun a h => ?_⟩,
    ⟨hR.b.p.trans P, hR.b.keep, hR.b.dom, hR.b.nio, fun a h n => ?_⟩⟩, P⟩
  · rcases h with h | h
    · exact p.nF a h n
    · exact (hA a h).2.st
  · rcases z with z | z
    · exact (hR.own1 a h).1 z
    · exact (hA a z).2.now h
  · rcases z with z | z
    · exact hR.c.ioF a h z
    · exact (hA a z).2.nio h
  · rcases h with h | h
    · exact hR.c.Fd a h
    · obtain ⟨o, e⟩ := (hA a h).1
      rw [e]; simp
  · rcases h with h | h
    · exact hR.b.nF a h n
    · exact (hA a h).2.bn
def frR (v : V) (r : R) (a : Addr) : Prop := v = .ref a ∧ ((∃ l, r = .fl l) ∨ ∃ t l, r = .fd t l)
theorem RR.frA {v : V} {r : R} {a : Addr} (h : RR T K B s0 H0 G s σ H v r) (z : frR v r a) : (∃ o, H a = some o) ∧ Fresh B s0 H0 G s σ H a := by
  obtain ⟨rfl, z⟩ := z
  cases h with
  | va _ => rcases z with ⟨_, z⟩ | ⟨_, _, z⟩ <;> cases z
  | fl e _ f => exact ⟨⟨_, e⟩, f⟩
  | fdK e _ f => exact ⟨⟨_, e⟩, f⟩
  | fdT e _ f => exact ⟨⟨_, e⟩, f⟩
  | own _ => rcases z with ⟨_, z⟩ | ⟨_, _, z⟩ <;> cases z
theorem RR.kept {v : V} {r : R} {d : D} {A : Addr → Prop} (h : RR T K B s0 H0 G s σ H v r) (e : keepR r = some d) (hA : ∀ a, frR v r a → A a) : RV T K (addF G A) H v d := by
  have P : Pers G H (addF G A) H := ⟨fun _ _ h => h, fun _ h => .inl h, fun _ _ => rfl, fun _ _ h => h, fun _ _ _ h => h, fun _ _ h => h⟩
  cases h with
  | va q => injection e with e; subst e; exact q.mono P
  | fl e1 q f => injection e with e; subst e; exact .lst (.inr (hA _ ⟨rfl, .inl ⟨_, rfl⟩⟩)) (.inl e1) (q.mono P)
  | fdK e1 q f => injection e with e; subst e; exact .dcK (.inr (hA _ ⟨rfl, .inr ⟨_, _, rfl⟩⟩)) e1 (q.mono P)
  | fdT e1 q f => injection e with e; subst e; exact .dcT (.inr (hA _ ⟨rfl, .inr ⟨_, _, rfl⟩⟩)) e1 (q.mono P)
  | own _ => cases e
theorem keep1 {v : V} {r : R} {d : D} (hR : Rel T K B G s σ H) (p : Stp σ G0 s0 H0 G s H) (h : RR T K B s0 H0 G s σ H v r) (e : keepR r = some d) :
    ∃ G', Stp σ G0 s0 H0 G' s H ∧ Rel T K B G' s σ H ∧ RV T K G' H v d :=
  let A := fun a => frR v r a
  let ⟨a, b, _⟩ := freeze (A := A) hR p fun a z => h.frA z
  ⟨addF G A, a, b, h.kept e fun _ z => z⟩
theorem keep1p {v : V} {r : R} {d : D} (hR : Rel T K B G s σ H) (p : Stp σ G0 s0 H0 G s H) (h : RR T K B s0 H0 G s σ H v r) (e : keepR r = some d) :
    ∃ G', Stp σ G0 s0 H0 G' s H ∧ Rel T K B G' s σ H ∧ RV T K G' H v d ∧ Pers G H G' H :=
  let A := fun a => frR v r a
  let ⟨a, b, c⟩ := freeze (A := A) hR p fun a z => h.frA z
  ⟨addF G A, a, b, h.kept e fun _ z => z, c⟩
def frRs : List V → List R → Addr → Prop
  | v :: vs, r :: rs, a => frR v r a ∨ frRs vs rs a
  | _, _, _ => False
theorem RRs.frA {a : Addr} : ∀ {vs : List V} {rs : List R}, RRs T K B s0 H0 G s σ H vs rs → frRs vs rs a → (∃ o, H a = some o) ∧ Fresh B s0 H0 G s σ H a
  | _, _, .nil, z => z.elim
  | _, _, .cons q t, z => z.elim (fun z => q.frA z) fun z => RRs.frA t z
theorem RRs.kept {A : Addr → Prop} : ∀ {vs : List V} {rs : List R} {ds : List D}, RRs T K B s0 H0 G s σ H vs rs → keepRs rs = some ds → (∀ a, frRs vs rs a → A a) → RVs T K (addF G A) H vs ds
  | _, _, _, .nil, e, _ => by injection e with e; subst e; exact .nil
  | _, _, _, .cons q t, e, hA => by
    unfold keepRs at e
    split at e
    · rename_i d ds h1 h2
      injection e with e; subst e
      exact .cons (q.kept h1 fun a z => hA a (.inl z)) (RRs.kept t h2 fun a z => hA a (.inr z))
    · cases e
theorem keepN {vs : List V} {rs : List R} {ds : List D} (hR : Rel T K B G s σ H) (p : Stp σ G0 s0 H0 G s H) (h : RRs T K B s0 H0 G s σ H vs rs) (e : keepRs rs = some ds) :
    ∃ G', Stp σ G0 s0 H0 G' s H ∧ Rel T K B G' s σ H ∧ RVs T K G' H vs ds :=
  let A := fun a => frRs vs rs a
  let ⟨a, b, _⟩ := freeze (A := A) hR p fun a z => h.frA z
  ⟨addF G A, a, b, h.kept e fun _ z => z⟩
theorem RRs.views : ∀ {vs : List V} {rs : List R} {ws : List Vw}, Rel T K B G s σ H → RRs T K B s0 H0 G s σ H vs rs → views s rs = some ws → Paired (VW T K G H) vs ws
  | _, _, _, _, .nil, e => by injection e with e; subst e; exact .nil
  | _, _, _, hR, .cons q t, e => by
    unfold BB.views at e
    split at e
    · rename_i d ds h1 h2
      injection e with e; subst e
      exact .cons (view_ok hR q h1) (RRs.views hR t h2)
    · cases e
end keep

/-! the simple expressions -/
variable {X : Cx}
theorem sE_val {e : Expr} {v : V} {d : D} (h : PE X e (tC v)) (hv : ∀ G H, RV T K G H v d) : PE X e (tE T K B W fun s => .ok (.va d) s) :=
  pe_imp h fun σ H Q ⟨G, s, hR, q⟩ => q G H v (.refl _ _ _ _) hR (.va (hv G H))
theorem sE_var {i : Nat} {x : Str} {p : Pos} (h : PE X (.Name x p) (tVar i)) : PE X (.Name x p) (tE T K B W fun s => match s.env[i]? with
    | some (.va d) => .ok (.va d) s
    | some (.ol _) => .ok (.own i) s
    | some (.od _ _) => .ok (.own i) s
    | _ => .bad) := pe_imp h fun σ H Q ⟨G, s, hR, q⟩ => by
  revert q
  dsimp only
  split
  · rename_i d e
    intro q
    have z := hR.sl _ _ e
    cases z' : σ[i]? with
    | none => rw [z'] at z; cases z
    | some o => rw [z'] at z; cases z with
      | va r => exact ⟨_, z', q G H _ (.refl _ _ _ _) hR (.va r)⟩
  · rename_i d e
    intro q
    have z := hR.sl _ _ e
    cases z' : σ[i]? with
    | none => rw [z'] at z; cases z
    | some o => rw [z'] at z; cases z with
      | ol r t => exact ⟨_, z', q G H _ (.refl _ _ _ _) hR (.own z')⟩
  · rename_i d e
    intro q
    have z := hR.sl _ _ e
    cases z' : σ[i]? with
    | none => rw [z'] at z; cases z
    | some o => rw [z'] at z; cases z with
      | odK r t => exact ⟨_, z', q G H _ (.refl _ _ _ _) hR (.own z')⟩
      | odT r t => exact ⟨_, z', q G H _ (.refl _ _ _ _) hR (.own z')⟩
  · exact fun q => q.elim
theorem sE_bin {a b : Expr} {ca cb : S → Oc R} {o : Operator} {p : Pos} (ha : PE X a (tE T X.K B W ca)) (hb : PE X b (tE T X.K B W cb)) :
    PE X (.BinOp a o b p) (tE T X.K B W fun s => (ca s).bind fun x s1 => (cb s1).bind fun y s2 => match view s2 x, view s2 y with
    | some u, some v => opt (binV o u v) s2
    | _, _ => .bad) := pe_imp (pe_op (opr_bin o) ha hb) fun σ H Q ⟨G, s, hR, q⟩ => by
  refine ⟨G, s, hR, at_bind q (.refl _ _ _ _) fun x s1 G1 H1 v1 st1 z1 R1 p1 q1 => ⟨G1, s1, R1, at_bind q1 z1 fun y s2 G2 H2 v2 st2 z2 R2 p2 q2 => ?_⟩⟩
  split at q2
  · rename_i u v hu hv
    unfold opt at q2
    split at q2
    · rename_i r hr
      exact bin_ok hr (view_ok R2 (RR.mono p1 st2) hu) (view_ok R2 p2 hv) fun H' w n => let ⟨a, b, c⟩ := new_ok R2 n; q2 _ _ _ (z2.trans a) b (c.back z2)
    · exact q2.elim
  · exact q2.elim
theorem sE_cmp {a b : Expr} {ca cb : S → Oc R} {o : CmpOp} {p : Pos} (hu : X.A.units + 64 < cLine) (hm : behindInMarks o b = false) (ha : PE X a (tE T X.K B W ca)) (hb : PE X b (tE T X.K B W cb)) :
    PE X (.Compare a [o] [b] p) (tE T X.K B W fun s => (ca s).bind fun x s1 => (cb s1).bind fun y s2 => match view s2 x, view s2 y with
    | some u, some v => opt ((cmpV o u v).map fun t => .va (.bl t)) s2
    | _, _ => .bad) := pe_imp (pe_cmpR (opr_cmp hu o) ha hb hm) fun σ H Q ⟨G, s, hR, q⟩ => by
  refine ⟨G, s, hR, at_bind q (.refl _ _ _ _) fun x s1 G1 H1 v1 st1 z1 R1 p1 q1 => ⟨G1, s1, R1, at_bind q1 z1 fun y s2 G2 H2 v2 st2 z2 R2 p2 q2 => ?_⟩⟩
  split at q2
  · rename_i u v hu hv
    cases hr : cmpV o u v with
    | none => rw [hr] at q2; exact q2.elim
    | some t =>
      rw [hr] at q2
      exact cmp_ok hr (view_ok R2 (RR.mono p1 st2) hu) (view_ok R2 p2 hv) (q2 G2 H2 _ z2 R2 (.va (.bl t)))
  · exact q2.elim
end
end BB

namespace BB
open PySem PySem.Spec PyProof.Rows L2
section
variable {T : Tab} {K : PySem.W.Frag} {B : Bs} {W : WX} {X : Cx} {G : Gh} {s : S} {σ : St} {H : Hp}
theorem setE_get {s : S} {i j : Nat} {x : Slot} : (setE s i x).env[j]? = if i = j then (if i < s.env.length then some x else none) else s.env[j]? := by
  show (s.env.set i x)[j]? = _
  rw [List.getElem?_set]
theorem OwnA.of_set {i : Nat} {x : Slot} (hx : isOwn x = false) {a : Addr} (h : OwnA (setE s i x) σ a) : OwnA s σ a := by
  obtain ⟨j, ⟨y, e, ho⟩, e2⟩ := h
  rw [setE_get] at e
  split at e
  · split at e
    · injection e with e; subst e; rw [hx] at ho; cases ho
    · cases e
  · exact ⟨j, ⟨y, e, ho⟩, e2⟩
theorem Own.of_set {i j : Nat} {x : Slot} (hx : isOwn x = false) {a : Addr} (h : Own (setE s i x) σ j a) : Own s σ j a ∧ i ≠ j := by
  obtain ⟨⟨y, e, ho⟩, e2⟩ := h
  rw [setE_get] at e
  split at e
  · split at e
    · injection e with e; subst e; rw [hx] at ho; cases ho
    · cases e
  · rename_i hij
    exact ⟨⟨⟨y, e, ho⟩, e2⟩, hij⟩
/-- a slot is known by another word -/
theorem Rel.setSlot {i : Nat} {x : Slot} (hR : Rel T K B G s σ H) (hx : isOwn x = false) (r : SlotR T K G H σ[i]? x) : Rel T K B G (setE s i x) σ H := by
  refine ⟨by show (s.env.set i x).length = _; rw [List.length_set]; exact hR.len, fun j y e => ?_, fun a h => hR.own1 a (h.of_set hx), fun j l a h1 h2 => hR.own2 j l a (h1.of_set hx).1 (h2.of_set hx).1, hR.c, hR.b⟩
  rw [setE_get] at e
  split at e
  · rename_i hij
    split at e
    · injection e with e; subst e; subst hij; exact r
    · cases e
  · exact hR.sl j y e
theorem Stp.setSlot {i : Nat} {x : Slot} (hx : isOwn x = false) : Stp σ G s H G (setE s i x) H :=
  ⟨.refl _ _, fun _ _ h _ _ => h, fun _ h => h, fun _ h n => absurd h n, fun _ h n => absurd h n, fun _ h => h.of_set hx⟩
theorem own_at {i : Nat} {x : Slot} (hR : Rel T K B G s σ H) (e : s.env[i]? = some x) (ho : isOwn x = true) : ∃ a, σ[i]? = some (some (.ref a)) ∧ Own s σ i a := by
  obtain ⟨a, u, e1, e2⟩ := (hR.sl i x e).there ho
  exact ⟨a, e1, ⟨x, e, ho⟩, e1⟩
theorem fresh_mv {i : Nat} {a : Addr} (hR : Rel T K B G s σ H) (h : Own s σ i a) : Fresh B s H G (setE s i .no) σ H a := by
  have h1 := hR.own1 a ⟨i, h⟩
  refine ⟨h1.1, h1.2.1, fun z => ?_, h1.2.2, .inr ⟨i, h⟩⟩
  obtain ⟨j, z⟩ := z
  obtain ⟨z1, z2⟩ := z.of_set rfl
  exact z2 (hR.own2 i j a h z1)
theorem sE_mv {i : Nat} {x : Str} {p : Pos} (h : PE X (.Name x p) (tVar i)) : PE X (.Name x p) (tE T K B W fun s => match s.env[i]? with
    | some (.va d) => .ok (.va d) s
    | some (.ol l) => .ok (.fl l) (setE s i .no)
    | some (.od t l) => .ok (.fd t l) (setE s i .no)
    | _ => .bad) := pe_imp h fun σ H Q ⟨G, s, hR, q⟩ => by
  revert q
  dsimp only
  split
  · rename_i d e
    intro q
    have z := hR.sl _ _ e
    cases z' : σ[i]? with
    | none => rw [z'] at z; cases z
    | some o => rw [z'] at z; cases z with
      | va r => exact ⟨_, z', q G H _ (.refl _ _ _ _) hR (.va r)⟩
  · rename_i d e
    intro q
    have z := hR.sl _ _ e
    obtain ⟨a, e1, ow⟩ := own_at hR e rfl
    rw [e1] at z
    cases z with
    | ol r t => exact ⟨_, e1, q G H _ (.setSlot rfl) (hR.setSlot rfl (.no _)) (.fl r t (fresh_mv hR ow))⟩
  · rename_i d e
    intro q
    have z := hR.sl _ _ e
    obtain ⟨a, e1, ow⟩ := own_at hR e rfl
    rw [e1] at z
    cases z with
    | odK r t => exact ⟨_, e1, q G H _ (.setSlot rfl) (hR.setSlot rfl (.no _)) (.fdK r t (fresh_mv hR ow))⟩
    | odT r t => exact ⟨_, e1, q G H _ (.setSlot rfl) (hR.setSlot rfl (.no _)) (.fdT r t (fresh_mv hR ow))⟩
  · exact fun q => q.elim
theorem setE_setE {i : Nat} {x y : Slot} : setE (setE s i x) i y = setE s i y := by
  show S.mk _ _ = S.mk _ _
  congr 1
  exact List.set_set ..
theorem sE_fz {i : Nat} {x : Str} {p : Pos} (h : PE X (.Name x p) (tVar i)) : PE X (.Name x p) (tE T K B W fun s => match s.env[i]? with
    | some (.va d) => .ok (.va d) s
    | some (.ol l) => .ok (.va (.lst l)) (setE s i (.va (.lst l)))
    | some (.od t l) => .ok (.va (.dct t l)) (setE s i (.va (.dct t l)))
    | _ => .bad) := pe_imp h fun σ H Q ⟨G, s, hR, q⟩ => by
  revert q
  dsimp only
  have fin : ∀ (a : Addr) (r : R) (d : D), σ[i]? = some (some (.ref a)) → keepR r = some d → RR T K B s H G (setE s i .no) σ H (.ref a) r → (∀ G' H' b, Stp σ G s H G' (setE s i (.va d)) H' → Rel T K B G' (setE s i (.va d)) σ H' → PR T K B s H G' (setE s i (.va d)) σ H' b (.va d) → Q b H') → Q (.ref a) H := by
    intro a r d e1 hk hr q
    obtain ⟨G', st, R', rv⟩ := keep1 (hR.setSlot rfl (.no _)) (.setSlot rfl) hr hk
    refine q G' H _ ?_ ?_ (.va rv)
    · have := st.trans (Stp.setSlot (i := i) (x := .va d) rfl)
      rw [setE_setE] at this
      exact this
    · have := R'.setSlot (i := i) (x := .va d) rfl (by rw [e1]; exact .va rv)
      rw [setE_setE] at this
      exact this
  split
  · rename_i d e
    intro q
    have z := hR.sl _ _ e
    cases z' : σ[i]? with
    | none => rw [z'] at z; cases z
    | some o => rw [z'] at z; cases z with
      | va r => exact ⟨_, z', q G H _ (.refl _ _ _ _) hR (.va r)⟩
  · rename_i d e
    intro q
    have z := hR.sl _ _ e
    obtain ⟨a, e1, ow⟩ := own_at hR e rfl
    rw [e1] at z
    cases z with
    | ol r t => exact ⟨_, e1, fin a (.fl d) _ e1 rfl (.fl r t (fresh_mv hR ow)) q⟩
  · rename_i d e
    intro q
    have z := hR.sl _ _ e
    obtain ⟨a, e1, ow⟩ := own_at hR e rfl
    rw [e1] at z
    cases z with
    | odK r t => exact ⟨_, e1, fin a (.fd _ _) _ e1 rfl (.fdK r t (fresh_mv hR ow)) q⟩
    | odT r t => exact ⟨_, e1, fin a (.fd _ _) _ e1 rfl (.fdT r t (fresh_mv hR ow)) q⟩
  · exact fun q => q.elim

/-! lists of expressions -/
theorem sL_nil : PA X [] (tL T K B W fun s => .ok [] s) := pa_imp pa_nil fun σ H Q ⟨G, s, hR, q⟩ => q G H [] (.refl _ _ _ _) hR .nil
theorem sL_cons {e : Expr} {es : List Expr} {c : S → Oc R} {cs : S → Oc (List R)} (he : PE X e (tE T K B W c)) (hes : PA X es (tL T K B W cs)) (hs : starEach (e :: es) X.env = (false, eval e X.env) :: starEach es X.env) :
    PA X (e :: es) (tL T K B W fun s => (c s).bind fun r s1 => (cs s1).bind fun rs s2 => .ok (r :: rs) s2) := pa_imp (pa_cons he hes hs) fun σ H Q ⟨G, s, hR, q⟩ => by
  refine ⟨G, s, hR, at_bind q (.refl _ _ _ _) fun x s1 G1 H1 v1 st1 z1 R1 p1 q1 => ⟨G1, s1, R1, at_bind q1 z1 fun y s2 G2 H2 v2 st2 z2 R2 p2 q2 => ?_⟩⟩
  exact q2 G2 H2 _ z2 R2 (.cons (p1.mono st2) (RRs.back z1 p2))
end
end BB

namespace BB
open PySem PySem.Spec PyProof.Rows L2
/-! built-in functions by values -/
def Bi.val : Bi → Value
  | .len => .builtin "len" | .int => .type "int" | .str => .type "str" | .abs => .builtin "abs" | .max => .builtin "max" | .min => .builtin "min" | .sum => .builtin "sum"
  | .all => .builtin "all" | .any => .builtin "any" | .list => .type "list" | .tuple => .type "tuple" | .isi => .builtin "isinstance" | .ord => .builtin "ord" | .sorted => .builtin "sorted" | .set => .type "set"
theorem Bi.boot (b : Bi) : bootBuiltins b.name = some b.val := by cases b <;> decide +kernel
theorem Bi.ne (b : Bi) : b.name ≠ "__name__" := by cases b <;> decide
theorem Bi.nd (b : Bi) : (b.name == ("__debug__" : Str)) = false := by cases b <;> decide
abbrev RB := List V → Hp → VK → Prop
def rNoB : RB := fun _ _ _ => False
def rLen (K : PySem.W.Frag) : RB := fun xs H Q => ∃ x n, xs = [x] ∧ LenV K x H n ∧ Q (.int n) H
def rInt : RB := fun xs H Q => ((∃ i, xs = [.int i] ∧ Q (.int i) H) ∨ ∃ k, xs = [.bl k] ∧ Q (.int (if k then 1 else 0)) H) ∨ ∃ a n, xs = [.str a] ∧ PySem.intText? a = some n ∧ a.length ≤ 640 ∧ Q (.int n) H
def rStr : RB := fun xs H Q => (∃ i, xs = [.int i] ∧ i.natAbs.log2 < 1920 ∧ Q (.str (toString i)) H) ∨ ((∃ a, xs = [.str a] ∧ Q (.str a) H) ∨ ((xs = [.non] ∧ Q (.str "None") H) ∨ ∃ b, xs = [.bl b] ∧ Q (.str (if b then "True" else "False")) H))
def rAbs : RB := fun xs H Q => ∃ i, xs = [.int i] ∧ Q (.int (if i < 0 then -i else i)) H
def rMax2 : RB := fun xs H Q => ∃ i j, xs = [.int i, .int j] ∧ Q (.int (if j > i then j else i)) H
def rMin2 : RB := fun xs H Q => ∃ i j, xs = [.int i, .int j] ∧ Q (.int (if j < i then j else i)) H
def rLst (K : PySem.W.Frag) : RB := fun xs H Q => ∃ p ys, xs = [.ref p] ∧ (SqL K H p ys ∨ SqT K H p ys) ∧ ∀ l, H l = none → Q (.ref l) (upd H l (.lst ys))
def rTpl (K : PySem.W.Frag) : RB := fun xs H Q => ∃ p ys, xs = [.ref p] ∧ ((SqL K H p ys ∧ ∀ l, H l = none → Q (.ref l) (upd H l (.tup ys))) ∨ (SqT K H p ys ∧ Q (.ref p) H))
def rOrd : RB := fun xs H Q => ∃ x, xs = [.str x] ∧ x.length = 1 ∧ Q (.int (x.cps.getD 0 0 : Nat)) H
def rBi (K : PySem.W.Frag) : Bi → RB
  | .len => rLen K | .int => rInt | .str => rStr | .abs => rAbs | .max => rMax2 | .min => rMin2 | .sum => rSum K | .all => rAll K | .any => rAny K
  | .list => rLst K | .tuple => rTpl K | .isi => rIsi K | .ord => rOrd | .sorted => rNoB | .set => rNoB
section
variable {X : Cx}
theorem call_no {f : Value} : CallR X f rNoB := fun _ _ _ _ _ _ _ _ _ h => h.elim
theorem call_str_non : CallR X (.type "str") (fun xs H Q => xs = [.non] ∧ Q (.str "None") H) := by
  intro pins s σ H xs us Q I r h
  obtain ⟨rfl, q⟩ := h
  obtain ⟨u, rfl, r1⟩ := vals1 r
  cases r1
  exact PySem.P.str_of_none ⟨.str _, H, I.tok _, ⟨_, rfl⟩, q⟩
theorem call_str_bl : CallR X (.type "str") (fun xs H Q => ∃ b, xs = [.bl b] ∧ Q (.str (if b then "True" else "False")) H) := by
  intro pins s σ H xs us Q I r h
  obtain ⟨b, rfl, q⟩ := h
  obtain ⟨u, rfl, r1⟩ := vals1 r
  cases r1
  exact PySem.P.str_of_bool ⟨.str _, H, I.tok _, ⟨_, rfl⟩, q⟩
theorem callR_bi (hc : X.calm = true) (b : Bi) : CallR X b.val (rBi X.K b) := by
  cases b with
  | len => exact call_len
  | int => exact call_int1.or call_int_str
  | str => exact call_str_int.or (SkE.call_str_str.or (call_str_non.or call_str_bl))
  | abs => exact call_abs
  | max => exact call_max2 hc
  | min => exact call_min2 hc
  | sum => exact cr_sum hc
  | all => exact cr_all hc
  | any => exact cr_any hc
  | list => exact call_list_of
  | tuple => exact call_tuple_of
  | isi => exact call_isi
  | ord => exact call_ord
  | sorted => exact call_no
  | set => exact call_no
end
section
variable {T : Tab} {K : PySem.W.Frag} {G : Gh} {H : Hp} {Q : VK}
theorem kit_of {t u : String} (hu : u ∈ ["str", "int", "bool", "tuple", "list", "dict"]) (ht : t ∈ ["NoneType", "bool", "int", "str", "tuple", "list", "dict"]) : PySem.W.kitOne K (.type t) (.type u) = some (isiW t u) := by
  simp only [List.mem_cons, List.not_mem_nil, or_false] at hu ht
  rcases hu with rfl | rfl | rfl | rfl | rfl | rfl <;> rcases ht with rfl | rfl | rfl | rfl | rfl | rfl | rfl <;> with_unfolding_all rfl
theorem VW.ty {v : V} {w : Vw} {t : String} (h : VW T K G H v w) (e : tyW w = some t) : TyX K H v (.type t) ∧ t ∈ ["NoneType", "bool", "int", "str", "tuple", "list", "dict"] := by
  cases h with
  | «at» q =>
    cases q <;> first
      | (cases e; done)
      | (injection e with e; subst e; exact ⟨.base .non, by decide⟩)
      | (injection e with e; subst e; exact ⟨.base (.bl _), by decide⟩)
      | (injection e with e; subst e; exact ⟨.base (.int _), by decide⟩)
      | (injection e with e; subst e; exact ⟨.base (.str _), by decide⟩)
      | skip
    case tup a b c =>
      injection e with e; subst e
      refine ⟨?_, by decide⟩
      rcases b with (b | ⟨o, b⟩) | ⟨o, its, n, b, d, _⟩
      · exact .base (.tup b)
      · exact .fTuple b
      · exact .kTuple b d
  | sc a b => cases e
  | ls a b =>
    injection e with e; subst e
    refine ⟨?_, by decide⟩
    rcases a with a | ⟨o, a⟩
    · exact .base (.lst a)
    · exact .base (.frz a)
  | dcK a b => injection e with e; subst e; exact ⟨.base (.dK a), by decide⟩
  | dcT a b => injection e with e; subst e; exact ⟨.base (.dT a), by decide⟩
theorem bi_ok {b : Bi} {vs : List V} {ws : List Vw} {r : R} (e : biV b ws = some r) (h : Paired (VW T K G H) vs ws) (q : ∀ H' w, NewR T K G H H' w r → Q w H') : rBi K b vs H Q := by
  unfold biV at e
  split at e
  -- len
  · injection e with e; subst e
    cases h with | cons a b => cases b; cases a with | ls a b => exact ⟨_, _, rfl, .inl ⟨_, .inl a, rfl⟩, by rw [b.length]; exact q _ _ (.same (.int _))⟩
  · injection e with e; subst e
    cases h with | cons a b => cases b; cases a with | sc a b => exact ⟨_, _, rfl, .inl ⟨_, a, rfl⟩, by rw [b.length]; exact q _ _ (.same (.int _))⟩
  · injection e with e; subst e
    cases h with | cons a b => cases b; cases a with | «at» a => cases a with | tup a b => exact ⟨_, _, rfl, .inr ⟨_, a, rfl⟩, by rw [b.length]; exact q _ _ (.same (.int _))⟩
  · split at e
    · rename_i hz
      injection e with e; subst e
      cases h with | cons a b => cases b; cases a with | «at» a => cases a with | str => exact ⟨_, _, rfl, ⟨hz, rfl⟩, q _ _ (.same (.int _))⟩
    · cases e
  -- int
  · injection e with e; subst e
    cases h with | cons a b => cases b; cases a with | «at» a => cases a with | int => exact .inl (.inl ⟨_, rfl, q _ _ (.same (.int _))⟩)
  · injection e with e; subst e
    cases h with | cons a b => cases b; cases a with | «at» a => cases a with | bl => exact .inl (.inr ⟨_, rfl, q _ _ (.same (.int _))⟩)
  · split at e
    · rename_i n hn
      split at e
      · rename_i hz
        injection e with e; subst e
        cases h with | cons a b => cases b; cases a with | «at» a => cases a with | str => exact .inr ⟨_, _, rfl, hn, hz, q _ _ (.same (.int _))⟩
      · cases e
    · cases e
  -- str
  · injection e with e; subst e
    cases h with | cons a b => cases b; cases a with | «at» a => cases a with | non => exact .inr (.inr (.inl ⟨rfl, q _ _ (.same (.str _))⟩))
  · injection e with e; subst e
    cases h with | cons a b => cases b; cases a with | «at» a => cases a with | bl => exact .inr (.inr (.inr ⟨_, rfl, q _ _ (.same (.str _))⟩))
  · split at e
    · rename_i hz
      injection e with e; subst e
      cases h with | cons a b => cases b; cases a with | «at» a => cases a with | int => exact .inl ⟨_, rfl, hz, q _ _ (.same (.str _))⟩
    · cases e
  · injection e with e; subst e
    cases h with | cons a b => cases b; cases a with | «at» a => cases a with | str => exact .inr (.inl ⟨_, rfl, q _ _ (.same (.str _))⟩)
  -- abs
  · injection e with e; subst e
    cases h with | cons a b => cases b; cases a with | «at» a => cases a with | int => exact ⟨_, rfl, q _ _ (.same (.int _))⟩
  · injection e with e; subst e
    cases h with | cons a b => cases b with | cons b c => cases c; cases a with | «at» a => cases a with | int => cases b with | «at» b => cases b with | int => exact ⟨_, _, rfl, q _ _ (.same (.int _))⟩
  · injection e with e; subst e
    cases h with | cons a b => cases b with | cons b c => cases c; cases a with | «at» a => cases a with | int => cases b with | «at» b => cases b with | int => exact ⟨_, _, rfl, q _ _ (.same (.int _))⟩
  -- sum, all, any
  · rename_i l
    cases h1 : intsD l with
    | none => rw [h1] at e; cases e
    | some is =>
      rw [h1] at e; injection e with e; subst e
      cases h with | cons a b => cases b; cases a with | ls a b => rw [b.ints h1] at a; exact ⟨_, is, rfl, .inl a, q _ _ (.same (.int _))⟩
  · rename_i l
    cases h1 : blsD l with
    | none => rw [h1] at e; cases e
    | some is =>
      rw [h1] at e; injection e with e; subst e
      cases h with | cons a b => cases b; cases a with | ls a b => rw [b.bools h1] at a; exact ⟨_, is, rfl, .inl a, q _ _ (.same (.bl _))⟩
  · rename_i l
    cases h1 : blsD l with
    | none => rw [h1] at e; cases e
    | some is =>
      rw [h1] at e; injection e with e; subst e
      cases h with | cons a b => cases b; cases a with | ls a b => rw [b.bools h1] at a; exact ⟨_, is, rfl, .inl a, q _ _ (.same (.bl _))⟩
  -- list, tuple
  · injection e with e; subst e
    cases h with | cons a b => cases b; cases a with | ls a b => exact ⟨_, _, rfl, .inl (.inl a), fun l hl => q _ _ (.lst hl b)⟩
  · injection e with e; subst e
    cases h with | cons a b => cases b; cases a with | «at» a => cases a with | tup a b => exact ⟨_, _, rfl, .inr a, fun l hl => q _ _ (.lst hl b)⟩
  · injection e with e; subst e
    cases h with | cons a b => cases b; cases a with | ls a b => exact ⟨_, _, rfl, .inl ⟨.inl a, fun l hl => q _ _ (.tup hl b)⟩⟩
  · injection e with e; subst e
    cases h with | cons a b => cases b; cases a with | «at» a => cases a with | tup a b => exact ⟨_, _, rfl, .inr ⟨a, q _ _ (.same (.tup a b))⟩⟩
  -- isinstance
  · split at e
    · rename_i a u hu
      cases h1 : tyW a with
      | none => rw [h1] at e; cases e
      | some t =>
        rw [h1] at e; injection e with e; subst e
        cases h with | cons a b => cases b with | cons b c => cases c; cases b with | «at» b => cases b with | ty =>
          obtain ⟨ty, ht⟩ := a.ty h1
          exact ⟨_, _, _, _, _, rfl, .ty _, ty, kit_of hu ht, q _ _ (.same (.bl _))⟩
    · cases e
  -- ord
  · split at e
    · rename_i hz
      injection e with e; subst e
      cases h with | cons a b => cases b; cases a with | «at» a => cases a with | str => exact ⟨_, rfl, hz, q _ _ (.same (.int _))⟩
    · cases e
  · cases e
end
end BB

namespace BB
open PySem PySem.Spec PyProof.Rows L2
/-! methods -/
def Mt.id : Mt → String
  | .count => "str.count" | .split => "str.split" | .join => "str.join" | .index => "str.index" | .replace => "str.replace" | .upper => "str.upper"
  | .startswith => "str.startswith" | .endswith => "str.endswith" | .lcount => "list.count"
abbrev RM := V → List V → Hp → VK → Prop
def rM1 (g : Str → Str → V) : RM := fun x xs H Q => ∃ a b, x = .str a ∧ xs = [.str b] ∧ Q (g a b) H
def rSplit : RM := fun x xs H Q => ∃ a b, x = .str a ∧ xs = [.str b] ∧ (b.length == 0) = false ∧ a.length + 2 ≤ sizeLine ∧ rNewStrs (Txt.split a b) H Q
def rJoin (K : PySem.W.Frag) : RM := fun x xs H Q => ∃ a p, ∃ ys : List Str, x = .str a ∧ xs = [.ref p] ∧ (SqL K H p (ys.map V.str) ∨ SqT K H p (ys.map V.str)) ∧ (ys.map (·.length)).sum + ys.length * a.length ≤ 16777216 ∧ Q (.str (Txt.join a ys)) H
def rUpper : RM := fun x xs H Q => ∃ a, x = .str a ∧ xs = [] ∧ a.length ≤ 5592405 ∧ Q (.str (Txt.upper a)) H
def rNoM : RM := fun _ _ _ _ => False
def rMt (K : PySem.W.Frag) : Mt → RM
  | .count => rM1 fun a b => .int (Txt.count a b)
  | .split => rSplit | .join => rJoin K | .upper => rUpper
  | .startswith => rM1 fun a b => .bl (Txt.startswith a b)
  | .endswith => rM1 fun a b => .bl (Txt.endswith a b)
  | .index => fun x xs H Q => ∃ a b i rest, x = .str a ∧ xs = [.str b] ∧ Builtin.Str.occurrences a b 0 a.length 1 = i :: rest ∧ Q (.int (i : Nat)) H
  | _ => rNoM
section
variable {X : Cx}
theorem mtR (m : Mt) : MtR X m.id (rMt X.K m) := by
  cases m with
  | count => exact mt_count
  | split => exact mt_split
  | join => exact mt_join
  | upper => exact mt_upper
  | startswith => exact mt_startswith
  | endswith => exact mt_endswith
  | index => exact mt_sindex
  | _ => exact fun _ _ _ _ _ _ _ _ _ _ _ _ h => h.elim
end
section
variable {T : Tab} {K : PySem.W.Frag} {G : Gh} {H : Hp} {Q : VK}
theorem mt_ok {m : Mt} {v : V} {w : Vw} {vs : List V} {ws : List Vw} {r : R} (e : mtV m w ws = some r) (h0 : VW T K G H v w) (h : Paired (VW T K G H) vs ws) (q : ∀ H' w, NewR T K G H H' w r → Q w H') : tyV K "str" v H ∧ rMt K m v vs H Q := by
  unfold mtV at e
  split at e
  · injection e with e; subst e
    cases h with | cons a b => cases b; cases h0 with | «at» c => cases c with | str => cases a with | «at» a => cases a with | str => exact ⟨rfl, _, _, rfl, rfl, q _ _ (.same (.int _))⟩
  · split at e
    · rename_i hz
      injection e with e; subst e
      cases h with | cons a b => cases b; cases h0 with | «at» c => cases c with | str => cases a with | «at» a => cases a with | str => exact ⟨rfl, _, _, rfl, rfl, hz.1, hz.2, fun p hp => q _ _ (.lst hp (.ofTexts _))⟩
    · cases e
  · split at e
    · rename_i ys hy
      split at e
      · rename_i hz
        injection e with e; subst e
        cases h with | cons a b => cases b; cases h0 with | «at» c => cases c with | str => cases a with | ls a b => rw [b.texts hy] at a; exact ⟨rfl, _, _, ys, rfl, rfl, .inl (.inl a), hz, q _ _ (.same (.str _))⟩
      · cases e
    · cases e
  · split at e
    · rename_i hz
      injection e with e; subst e
      cases h; cases h0 with | «at» c => cases c with | str => exact ⟨rfl, _, rfl, rfl, hz, q _ _ (.same (.str _))⟩
    · cases e
  · injection e with e; subst e
    cases h with | cons a b => cases b; cases h0 with | «at» c => cases c with | str => cases a with | «at» a => cases a with | str => exact ⟨rfl, _, _, rfl, rfl, q _ _ (.same (.bl _))⟩
  · injection e with e; subst e
    cases h with | cons a b => cases b; cases h0 with | «at» c => cases c with | str => cases a with | «at» a => cases a with | str => exact ⟨rfl, _, _, rfl, rfl, q _ _ (.same (.bl _))⟩
  · split at e
    · rename_i i rest ho
      injection e with e; subst e
      cases h with | cons a b => cases b; cases h0 with | «at» c => cases c with | str => cases a with | «at» a => cases a with | str => exact ⟨rfl, _, _, _, _, rfl, rfl, ho, q _ _ (.same (.int _))⟩
    · cases e
  · cases e
theorem ix_ok {v w : V} {a b : Vw} {d : D} (e : ixV a b = some d) (h0 : VW T K G H v a) (h1 : VW T K G H w b) (q : ∀ x, RV T K G H x d → Q x H) : rIxL K v w H Q ∨ (rIxT K v w H Q ∨ rIxS v w H Q) := by
  unfold ixV at e
  split at e
  · rename_i i
    cases h1 with | «at» c => cases c with | int =>
    split at e
    · cases h0 with | ls x y =>
        obtain ⟨z, e1, r⟩ := y.ix e
        exact .inl ⟨_, _, _, z, rfl, rfl, .inl x, e1, q _ r⟩
    · cases h0 with | sc x y =>
        obtain ⟨z, e1, r⟩ := y.ix e
        exact .inl ⟨_, _, _, z, rfl, rfl, x, e1, q _ r⟩
    · cases h0 with | «at» x => cases x with | tup x y =>
        obtain ⟨z, e1, r⟩ := y.ix e
        exact .inr (.inl ⟨_, _, _, z, rfl, rfl, x, e1, q _ r⟩)
    · split at e
      · rename_i z hz
        cases h0 with | «at» x => cases x with | str =>
          cases h : atI z.cps.toList i with
          | none => rw [h] at e; cases e
          | some c =>
            rw [h] at e; injection e with e; subst e
            exact .inr (.inr ⟨_, _, c, rfl, rfl, hz, h, q _ (.str _)⟩)
      · cases e
    · cases e
  · cases e
theorem cutD_full {α : Type} {xs : List α} {lo hi : Option Int} (h : HT.sIx xs.length 0 lo = 0 ∧ HT.sIx xs.length xs.length hi = xs.length) : (xs.drop (HT.sIx xs.length 0 lo)).take (HT.sIx xs.length xs.length hi - HT.sIx xs.length 0 lo) = xs := by
  rw [h.1, h.2]; simp
theorem sl_ok {v : V} {a : Vw} {lo hi : Option Int} {r : R} (e : slV a lo hi = some r) (h0 : VW T K G H v a) (q : ∀ H' w, NewR T K G H H' w r → Q w H') : rSlL K v lo hi H Q ∨ (rSlA K v lo hi H Q ∨ rSlS v lo hi H Q) := by
  unfold slV at e
  split at e
  · injection e with e; subst e
    cases h0 with | ls x y => exact .inl ⟨_, _, rfl, .inl x, fun p hp => q _ _ (.lst hp (y.cut lo hi))⟩
  · injection e with e; subst e
    cases h0 with | sc x y => exact .inl ⟨_, _, rfl, x, fun p hp => q _ _ (.lst hp (y.cut lo hi))⟩
  · injection e with e; subst e
    cases h0 with | «at» x => cases x with | tup x y =>
      refine .inr (.inl ⟨_, _, rfl, x, fun hf => ?_, fun _ p hp => q _ _ (.tup hp (y.cut lo hi))⟩)
      rw [y.length] at hf
      have q2 := q _ _ (.same (K := K) (T := T) (by
        unfold cutD
        rw [cutD_full hf]
        exact .tup x y))
      exact q2
  · split at e
    · rename_i hz
      injection e with e; subst e
      cases h0 with | «at» x => cases x with | str => exact .inr (.inr ⟨_, rfl, hz, q _ _ (.same (.str _))⟩)
    · cases e
  · cases e
/-! dicts -/
theorem RKs.get {kvs : List (Key × V)} {l : List (D × D)} (h : RKs T K G H kvs l) (k : Key) : (valV kvs k = none ∧ dget (.inl k) l = none) ∨ ∃ v d, valV kvs k = some v ∧ dget (.inl k) l = some d ∧ RV T K G H v d := by
  induction kvs generalizing l with
  | nil => cases h; exact .inl ⟨rfl, rfl⟩
  | cons p r ih =>
    cases h with
    | @cons k' v kd d _ ds e rv t =>
      by_cases hk : k' = k
      · subst hk
        exact .inr ⟨v, d, valV_pos rfl, by unfold dget; rw [List.find?_cons, e]; simp, rv⟩
      · have e1 : dget (.inl k) ((kd, d) :: ds) = dget (.inl k) ds := by
          unfold dget
          rw [List.find?_cons]
          have : decide (dkey kd = some (Sum.inl k)) = false := decide_eq_false (by rw [e]; intro z; injection z with z; injection z with z; exact hk z)
          rw [this]
        rw [valV_neg hk, e1]
        exact ih t
theorem RTs.get {kvs : List (List Key × V)} {l : List (D × D)} (h : RTs T K G H kvs l) (k : List Key) : (valV kvs k = none ∧ dget (.inr k) l = none) ∨ ∃ v d, valV kvs k = some v ∧ dget (.inr k) l = some d ∧ RV T K G H v d := by
  induction kvs generalizing l with
  | nil => cases h; exact .inl ⟨rfl, rfl⟩
  | cons p r ih =>
    cases h with
    | @cons k' v kd d _ ds e rv t =>
      by_cases hk : k' = k
      · subst hk
        exact .inr ⟨v, d, valV_pos rfl, by unfold dget; rw [List.find?_cons, e]; simp, rv⟩
      · have e1 : dget (.inr k) ((kd, d) :: ds) = dget (.inr k) ds := by
          unfold dget
          rw [List.find?_cons]
          have : decide (dkey kd = some (Sum.inr k)) = false := decide_eq_false (by rw [e]; intro z; injection z with z; injection z with z; exact hk z)
          rw [this]
        rw [valV_neg hk, e1]
        exact ih t
theorem RKs.keys_ne {kvs : List (Key × V)} {l : List (D × D)} (h : RKs T K G H kvs l) (k : List Key) : dget (.inr k) l = none := by
  induction kvs generalizing l with
  | nil => cases h; rfl
  | cons p r ih =>
    cases h with
    | @cons k' v kd d _ ds e rv t =>
      unfold dget
      rw [List.find?_cons]
      have : decide (dkey kd = some (Sum.inr k)) = false := decide_eq_false (by rw [e]; intro z; injection z with z; cases z)
      rw [this]
      exact ih t
theorem keysD_of : ∀ {ds : List D} {ks : List Key} {vs : List V}, keysD ds = some ks → RVs T K G H vs ds → vs = ks.map kV
  | [], _, _, e, .nil => by injection e with e; subst e; rfl
  | d :: ds, _, _, e, .cons r t => by
    unfold keysD at e
    split at e
    · rename_i k ks h1 h2
      injection e with e; subst e
      rw [keysD_of h2 t, List.map_cons]
      congr 1
      cases d <;> first | (cases h1; done) | (injection h1 with h1; subst h1; cases r; rfl)
    · cases e
theorem key_of {d : D} {k : Key} {v : V} (e : dkey d = some (.inl k)) (r : RV T K G H v d) : v = kV k := by
  cases d <;> first | (cases e; done) | skip
  case int => cases r; injection e with e; injection e with e; subst e; rfl
  case str => cases r; injection e with e; injection e with e; subst e; rfl
  case tup l =>
    have e : (keysD l).map Sum.inr = some (Sum.inl k) := e
    cases h : keysD l with
    | none => rw [h] at e; cases e
    | some ks => rw [h] at e; injection e with e; cases e
theorem tkey_of {d : D} {k : List Key} {v : V} (e : dkey d = some (.inr k)) (r : RV T K G H v d) : ∃ a, v = .ref a ∧ SqT K H a (k.map kV) := by
  cases d <;> first | (cases e; done) | skip
  case tup l =>
    have e : (keysD l).map Sum.inr = some (Sum.inr k) := e
    cases h : keysD l with
    | none => rw [h] at e; cases e
    | some ks =>
      rw [h] at e; injection e with e; injection e with e; subst e
      cases r with
      | tup x y =>
        rw [keysD_of h y] at x
        exact ⟨_, rfl, x⟩
theorem RKs.put {kvs : List (Key × V)} {l : List (D × D)} {k : Key} {kd d : D} {v : V} (h : RKs T K G H kvs l) (e : dkey kd = some (.inl k)) (r : RV T K G H v d) : RKs T K G H (putK kvs k v) (dput kd (.inl k) d l) := by
  have ha : (kvs.any fun kv => decide (kv.1 = k)) = (l.any fun p => decide (dkey p.1 = some (.inl k))) := by
    induction kvs generalizing l with
    | nil => cases h; rfl
    | cons p q ih =>
      cases h with
      | @cons k' v' kd' d' _ ds e' rv t =>
        rw [List.any_cons, List.any_cons, ih t]
        congr 1
        show decide (k' = k) = decide (dkey kd' = some (Sum.inl k))
        rw [e']
        by_cases hk : k' = k
        · subst hk; simp
        · rw [decide_eq_false hk, decide_eq_false]; intro z; injection z with z; injection z with z; exact hk z
  have hm : RKs T K G H (kvs.map fun kv => if kv.1 = k then (kv.1, v) else kv) (l.map fun p => if dkey p.1 = some (.inl k) then (p.1, d) else p) := by
    clear ha
    induction kvs generalizing l with
    | nil => cases h; exact .nil
    | cons p q ih =>
      cases h with
      | @cons k' v' kd' d' _ ds e' rv t =>
        rw [List.map_cons, List.map_cons]
        by_cases hk : k' = k
        · subst hk
          rw [if_pos rfl, if_pos e']
          exact .cons e' r (ih t)
        · rw [if_neg hk, if_neg (by show ¬ dkey kd' = _; rw [e']; intro z; injection z with z; injection z with z; exact hk z)]
          exact .cons e' rv (ih t)
  have hp : RKs T K G H (kvs ++ [(k, v)]) (l ++ [(kd, d)]) := by
    clear ha hm
    induction kvs generalizing l with
    | nil => cases h; exact .cons e r .nil
    | cons p q ih =>
      cases h with
      | cons e' rv t => exact .cons e' rv (ih t)
  unfold putK dput
  rw [ha]
  split
  · exact hm
  · exact hp
end
end BB

namespace BB
open PySem PySem.Spec PyProof.Rows L2 HT
section
variable {prog : Program} {w : World} {A : Around} {E : Value → Shared → Prop} {s : Shared}
theorem adj_rev (n : Nat) : Builtin.Slice.sliceAdjust none none (-1) (n : Int) = ((n : Int) - 1, -1) := by
  unfold Builtin.Slice.sliceAdjust
  simp
theorem plc_rev (n : Nat) : Builtin.Slice.slicePlaces ((n : Int) - 1) (-1) (-1) = n := by
  unfold Builtin.Slice.slicePlaces
  simp
  omega
theorem applied_rev {sl : Addr} {u : Tok} {n : Nat} {Q : Int × Int × Nat → Shared → Prop} (hs : s.heap.IsSliceOf sl .none .none (.int (-1) u)) (h : Q ((n : Int) - 1, -1, n) s) : wpAny (model prog w) A (Builtin.Slice.sliceApplied (.ref sl) (pure (n : Int))) Q E s := by
  obtain ⟨ob, g1, g2, g3⟩ := id hs
  unfold Builtin.Slice.sliceApplied Builtin.Slice.sliceFields
  refine wpAny_bind (wpAny_bind (wpAny_field g1 g3 (x := .none) rfl (wpAny_bind (wpAny_field g1 g3 (x := .none) rfl (wpAny_bind (wpAny_field g1 g3 (x := .int (-1) u) rfl (wpAny_pure ?_)))))))
  refine wpAny_bind (slicePart_int ?_)
  show wpAny _ _ (if ((-1 : Int) == 0) = true then _ else _) _ _ s
  rw [if_neg (by decide)]
  refine wpAny_bind (slicePart_none (wpAny_bind (slicePart_none (wpAny_bind (wpAny_pure ?_)))))
  show wpAny _ _ (match Builtin.Slice.sliceAdjust none none (-1) (n : Int) with | (lo, hi) => pure (lo, (-1 : Int), Builtin.Slice.slicePlaces lo hi (-1))) _ _ s
  rw [adj_rev n]
  show wpAny _ _ (pure ((n : Int) - 1, (-1 : Int), Builtin.Slice.slicePlaces ((n : Int) - 1) (-1) (-1))) _ _ s
  rw [plc_rev]
  exact wpAny_pure h
theorem fm_congr {α β : Type} {f g : α → Option β} : ∀ {l : List α}, (∀ x ∈ l, f x = g x) → l.filterMap f = l.filterMap g
  | [], _ => rfl
  | a :: l, h => by rw [List.filterMap_cons, List.filterMap_cons, h a (List.mem_cons_self ..), fm_congr fun x m => h x (List.mem_cons_of_mem _ m)]
theorem pick_revL : ∀ l : List Value, ((List.range l.length).filterMap fun m => l[l.length - 1 - m]?) = l.reverse
  | [] => rfl
  | a :: r => by
    have ih := pick_revL r
    rw [List.length_cons, List.range_succ, List.filterMap_append, List.reverse_cons]
    congr 1
    · rw [← ih]
      refine fm_congr fun m hm => ?_
      have hm := List.mem_range.mp hm
      rw [show r.length + 1 - 1 - m = (r.length - 1 - m) + 1 by omega, List.getElem?_cons_succ]
    · simp
theorem pick_rev (xs : Array Value) : ((List.range xs.size).filterMap fun (m : Nat) => xs[((xs.size : Int) - 1 + (m : Int) * (-1)).toNat]?).toArray = xs.toList.reverse.toArray := by
  rw [← pick_revL xs.toList, Array.length_toList]
  congr 1
  refine fm_congr fun m hm => ?_
  have hm := List.mem_range.mp hm
  rw [show ((xs.size : Int) - 1 + (m : Int) * (-1)).toNat = xs.size - 1 - m by omega, Array.getElem?_toList]
theorem getItem_rev {t sl : Addr} {items : Array Value} {u : Tok} {Q : Value → Shared → Prop} (ht : IsTup s.heap t items) (hs : s.heap.IsSliceOf sl .none .none (.int (-1) u))
    (h : Q (.ref s.heap.objs.size) { s with heap := s.heap.push { cls := .type "tuple", data := .seq items.toList.reverse.toArray } }) (hz : items.size ≤ sizeLine) : wpAny (model prog w) A (getItem (.ref t) (.ref sl)) Q E s := by
  have ok : sizeOk (.seq items.toList.reverse.toArray) := by
    show items.toList.reverse.toArray.size ≤ sizeLine
    simpa using hz
  obtain ⟨ob, g1, g2, g3⟩ := id hs
  have ty : s.TypeIs (.ref sl) "slice" := ⟨ob, g1, g2⟩
  unfold getItem
  try with_reducible refine wpAny_holding ?_
  first | refine wpAny_bind (wpAny_pure ?_) | skip
  refine wpAny_bind (wpAny_sequenceKey ht.typeIs (by decide) ?_)
  refine wpAny_bind (wpAny_callSpecial?_slot (name := Str.ofString "__getitem__") ht.typeIs PyProof.Rows.slot_tuple_getitem (wpAny_call_entry PyProof.Rows.slot_tuple_getitem ht.typeIs entry_tuple_getitem ?_ (args_tuple_getitem _ _)))
  show wpAny _ _ (Builtin.Tuple.tupleItemsOf (.ref t) >>= _) _ _ s
  refine wpAny_bind (tupleItemsOf_ ht (wpAny_bind (wpAny_typeOf ty ?_)))
  rw [if_pos (by decide)]
  refine wpAny_bind (applied_rev hs ?_)
  have no : ¬ (((items.size : Int) - 1 == 0 && (-1 : Int) == 1 && items.size == items.size) = true) := by simp
  show wpAny _ _ (if ((items.size : Int) - 1 == 0 && (-1 : Int) == 1 && items.size == items.size) = true then _ else _) _ _ s
  rw [if_neg no, pick_rev]
  have fin : ∀ {R : Value → Shared → Prop}, R (.ref s.heap.objs.size) { s with heap := s.heap.push { cls := .type "tuple", data := .seq items.toList.reverse.toArray } } → wpAny (model prog w) A.in1 (Builtin.Tuple.tupleExact items.toList.reverse.toArray) R E s := fun q => wpAny_newObj_type q ok
  first
    | exact wpAny_bind (fin (wpAny_pure ⟨_, rfl, wpAny_pure h⟩))
    | exact wpAny_bind (fin (wpAny_bind (wpAny_pure (wpAny_pure ⟨_, rfl, wpAny_pure h⟩))))
    | exact wpAny_bind (wpAny_bind (fin (wpAny_pure (wpAny_pure ⟨_, rfl, wpAny_pure h⟩))))
end
/-- t[::-1], t a tuple -/
theorem pe_rvt {X : Cx} {e : Expr} {te : TE} {k : Nat} {p1 p2 p3 pos : Pos} (he : PE X e te) : PE X (.Subscript e (.Slice none none (some (.UnaryOp .USub (.Constant (.int 1) k p1) p2)) p3) pos)
    (fun σ H Q => te σ H fun x H1 => ∃ a xs, x = .ref a ∧ SqT X.K H1 a xs ∧ ∀ p, H1 p = none → Q (.ref p) (upd H1 p (.tup xs.reverse))) := by
  refine ⟨fun pins s σ H Q I q0 => Subscript_ (thn (he.run pins s σ H _ I q0) fun v s1 got => ?_)⟩
  obtain ⟨x, H1, I1, r1, a, xs, ex, hx, q⟩ := got
  subst ex
  cases r1
  have step : PO X (some (.UnaryOp .USub (.Constant (.int 1) k p1) p2)) (tPart (tUn (rU fun i => .int (-i)) (tC (.int 1)))) := po_some (pe_un un_neg pe_int)
  refine wpAny_Slice (thn (po_none.run pins s1 σ H1 (fun o G => o = none ∧ G = H1) I1 ⟨rfl, rfl⟩) fun w1 s2 g2 => ?_)
  obtain ⟨l, H2, I2, pl, el, e2⟩ := g2
  subst el; subst e2
  refine thn (po_none.run pins s2 σ H2 (fun o G => o = none ∧ G = H2) I2 ⟨rfl, rfl⟩) fun w2 s3 g3 => ?_
  obtain ⟨l3, H3, I3, pu, eu, e3⟩ := g3
  subst eu; subst e3
  refine thn (step.run pins s3 σ H3 (fun o G => o = some (-1) ∧ G = H3) I3 ⟨1, rfl, -1, rfl, rfl, rfl⟩) fun w3 s4 g4 => ?_
  obtain ⟨o4, H4, I4, ps, eo, e4⟩ := g4
  subst eo; subst e4
  cases pl
  cases pu
  cases ps with
  | int i u =>
    have J : Inv X pins σ H4 { s4 with heap := s4.heap.push { cls := .type "slice", data := .fields #[.none, .none, .int (-1) u] } } := I4.kept (t' := s4.toks) fun b ob z => Heap.get?_push_of_some _ z
    obtain ⟨its, r, ht, hz⟩ := J.tuple hx
    have hlen := r.length
    show wpAny (model X.prog X.w) X.A (subscriptTail e (.Slice none none (some (.UnaryOp .USub (.Constant (.int 1) k p1) p2)) p3) (.ref a) (.ref s4.heap.objs.size)) (EP X pins σ Q) X.xe _
    refine tail_any (ops := [.ref a, .ref s4.heap.objs.size]) ht.typeIs (PyProof.Rows.slot_tuple_getitem.lookup) ?_ (by with_unfolding_all rfl)
    refine getItem_rev ht (Heap.IsSliceOf.new _ .none .none (.int (-1) u)) ?_ (by rw [List.size_toArray]; omega)
    refine ⟨.ref _, _, J.laid (t' := s4.toks) (o := .tup xs.reverse) (fun b ob z => Heap.get?_push_of_some _ z) (Nat.le_refl _) ?_, rfl, q _ (J.hok.fresh (Nat.le_refl _))⟩
    exact ⟨by rw [List.length_reverse]; exact hz, _, r.reverse, IsTup.new _ _⟩
end BB

namespace BB
open PySem PySem.Spec PyProof.Rows L2
section
variable {T : Tab} {B : Bs} {W : WX} {X : Cx}
theorem opt_at {α β : Type} {P : PP α β} {K : PySem.W.Frag} {o : Option α} {G0 : Gh} {s0 s : S} {σ : St} {H0 : Hp} {Q : β → Hp → Prop} (h : At T K B W P (opt o s) G0 s0 σ H0 Q) : ∃ a, o = some a ∧ At T K B W P (.ok a s) G0 s0 σ H0 Q := by
  cases o with
  | none => exact h.elim
  | some a => exact ⟨a, rfl, h⟩
/-- a new thing ends it -/
theorem at_new {K : PySem.W.Frag} {r : R} {G0 G : Gh} {s0 s : S} {σ : St} {H0 H H' : Hp} {v : V} {Q : VK} (h : At T K B W (PR T K B) (.ok r s) G0 s0 σ H0 Q) (p0 : Stp σ G0 s0 H0 G s H) (hR : Rel T K B G s σ H) (n : NewR T K G H H' v r) : Q v H' :=
  let ⟨a, b, c⟩ := new_ok hR n
  h _ _ _ (p0.trans a) b (c.back p0)
theorem sE_tup {es : List Expr} {cs : S → Oc (List R)} {k : Nat} {p : Pos} (h : PA X es (tL T X.K B W cs)) : PE X (.Tuple es k p) (tE T X.K B W fun s => (cs s).bind fun rs s1 => match keepRs rs with
    | some ds => if ds.length ≤ sizeLine then .ok (.va (.tup ds)) s1 else .bad
    | none => .bad) := pe_imp (pe_tup h) fun σ H Q ⟨G, s, hR, q⟩ => by
  refine ⟨G, s, hR, at_bind q (.refl _ _ _ _) fun rs s1 G1 H1 vs st1 z1 R1 p1 q1 => ?_⟩
  split at q1
  · rename_i ds hk
    split at q1
    · rename_i hz
      obtain ⟨G2, st2, R2, rv⟩ := keepN R1 z1 p1 hk
      exact ⟨by rw [rv.length]; exact hz, fun p hp => at_new q1 st2 R2 (.tup hp rv)⟩
    · exact q1.elim
  · exact q1.elim
theorem sE_lst {es : List Expr} {cs : S → Oc (List R)} {p : Pos} (h : PA X es (tL T X.K B W cs)) : PE X (.List es p) (tE T X.K B W fun s => (cs s).bind fun rs s1 => match keepRs rs with
    | some ds => if ds.length ≤ sizeLine then .ok (.fl ds) s1 else .bad
    | none => .bad) := pe_imp (pe_lst h) fun σ H Q ⟨G, s, hR, q⟩ => by
  refine ⟨G, s, hR, at_bind q (.refl _ _ _ _) fun rs s1 G1 H1 vs st1 z1 R1 p1 q1 => ?_⟩
  split at q1
  · rename_i ds hk
    split at q1
    · rename_i hz
      obtain ⟨G2, st2, R2, rv⟩ := keepN R1 z1 p1 hk
      exact ⟨by rw [rv.length]; exact hz, fun p hp => at_new q1 st2 R2 (.lst hp rv)⟩
    · exact q1.elim
  · exact q1.elim
def rUn : UnaryOp → V → Hp → VK → Prop
  | .USub => rU fun i => .int (-i)
  | _ => fun _ _ _ => False
theorem unR (o : UnaryOp) : UnR X (unaryOp o) (rUn o) := by
  cases o with
  | USub => exact un_neg
  | _ => exact fun _ _ _ _ _ _ _ _ _ h => h.elim
theorem sE_un {a : Expr} {ca : S → Oc R} {o : UnaryOp} {p : Pos} (ha : PE X a (tE T X.K B W ca)) : PE X (.UnaryOp o a p) (tE T X.K B W fun s => (ca s).bind fun x s1 => match view s1 x with
    | some u => opt (unV o u) s1
    | _ => .bad) := pe_imp (pe_un (unR o) ha) fun σ H Q ⟨G, s, hR, q⟩ => by
  refine ⟨G, s, hR, at_bind q (.refl _ _ _ _) fun x s1 G1 H1 v1 st1 z1 R1 p1 q1 => ?_⟩
  split at q1
  · rename_i u hu
    obtain ⟨r, hr, q2⟩ := opt_at q1
    have w := view_ok R1 p1 hu
    unfold unV at hr
    split at hr
    · injection hr with hr; subst hr
      cases w with | «at» a => cases a with | int i => exact ⟨_, rfl, at_new q2 z1 R1 (.same (.int _))⟩
    · cases hr
  · exact q1.elim
theorem sE_chain {a b c : Expr} {ca cb cc : S → Oc R} {o o' : CmpOp} {p : Pos} (hu : X.A.units + 64 < cLine) (hm : lastMarks [o, o'] [b, c] = false) (ha : PE X a (tE T X.K B W ca)) (hb : PE X b (tE T X.K B W cb)) (hc : PE X c (tE T X.K B W cc)) :
    PE X (.Compare a [o, o'] [b, c] p) (tE T X.K B W fun s => (ca s).bind fun x s1 => (cb s1).bind fun y s2 => match view s2 x, view s2 y with
    | some u, some v => match cmpV o u v with
      | some true => (cc s2).bind fun z s3 => match view s3 y, view s3 z with
        | some v, some w => opt ((cmpV o' v w).map fun t => .va (.bl t)) s3
        | _, _ => .bad
      | some false => .ok (.va (.bl false)) s2
      | none => .bad
    | _, _ => .bad) := pe_imp (pe_chain (opr_cmp hu o) (opr_cmp hu o') ha hb hc hm) fun σ H Q ⟨G, s, hR, q⟩ => by
  refine ⟨G, s, hR, at_bind q (.refl _ _ _ _) fun x s1 G1 H1 v1 st1 z1 R1 p1 q1 => ⟨G1, s1, R1, at_bind q1 z1 fun y s2 G2 H2 v2 st2 z2 R2 p2 q2 => ?_⟩⟩
  split at q2
  · rename_i u v hu hv
    split at q2
    · rename_i hr
      refine cmp_ok hr (view_ok R2 (RR.mono p1 st2) hu) (view_ok R2 p2 hv) ⟨true, rfl, ?_⟩
      rw [if_pos rfl]
      refine ⟨G2, s2, R2, at_bind q2 z2 fun z s3 G3 H3 v3 st3 z3 R3 p3 q3 => ?_⟩
      split at q3
      · rename_i v' w' hv' hw'
        cases hr : cmpV o' v' w' with
        | none => rw [hr] at q3; exact q3.elim
        | some t =>
          rw [hr] at q3
          exact cmp_ok hr (view_ok R3 (RR.mono p2 st3) hv') (view_ok R3 p3 hw') (at_new q3 z3 R3 (.same (.bl t)))
      · exact q3.elim
    · rename_i hr
      refine cmp_ok hr (view_ok R2 (RR.mono p1 st2) hu) (view_ok R2 p2 hv) ⟨false, rfl, ?_⟩
      rw [if_neg Bool.false_ne_true]
      exact at_new q2 z2 R2 (.same (.bl _))
    · exact q2.elim
  · exact q2.elim
/-! truth -/
theorem asB_bind {α : Type} {o : Oc R} {f : Bool → S → Oc α} : (asB o).bind f = o.bind fun r s => match r with
    | .va (.bl b) => f b s
    | _ => .bad := by
  cases o with
  | ok r s =>
    show ((match r with | .va (.bl b) => Oc.ok b s | _ => .bad) : Oc Bool).bind f = _
    cases r with
    | va d => cases d <;> rfl
    | _ => rfl
  | ex n fs s => rfl
  | bad => rfl
theorem at_asB {β2 : Type} {α : Type} {K : PySem.W.Frag} {P2 : PP α β2} {o : Oc R} {f : Bool → S → Oc α} {G0 G : Gh} {s0 s : S} {σ : St} {H0 H : Hp} {Q : β2 → Hp → Prop} {Q1 : V → Hp → Prop}
    (h : At T K B W P2 ((asB o).bind f) G0 s0 σ H0 Q) (p0 : Stp σ G0 s0 H0 G s H) (k : ∀ t s1 G1 H1, Stp σ G0 s0 H0 G1 s1 H1 → Rel T K B G1 s1 σ H1 → At T K B W P2 (f t s1) G0 s0 σ H0 Q → Q1 (.bl t) H1) : At T K B W (PR T K B) o G s σ H Q1 := by
  rw [asB_bind] at h
  refine at_bind h p0 fun r s1 G1 H1 v st z R1 p1 q1 => ?_
  split at q1
  · cases p1 with | va a => cases a with | bl b => exact k _ s1 G1 H1 z R1 q1
  · exact q1.elim
theorem sE_and {a b : Expr} {rest : List Expr} {ca cr : S → Oc R} {p : Pos} (ha : PE X a (tE T X.K B W ca)) (hr : PE X (.BoolOp .And (b :: rest) p) (tE T X.K B W cr)) :
    PE X (.BoolOp .And (a :: b :: rest) p) (tE T X.K B W fun s => (asB (ca s)).bind fun t s1 => if t = true then cr s1 else .ok (.va (.bl false)) s1) := pe_imp (pe_and ha hr) fun σ H Q ⟨G, s, hR, q⟩ => by
  refine ⟨G, s, hR, at_asB q (.refl _ _ _ _) fun t s1 G1 H1 z1 R1 q1 => ⟨t, rfl, ?_⟩⟩
  cases t with
  | true => exact ⟨G1, s1, R1, at_tail back_R q1 z1⟩
  | false => exact at_new q1 z1 R1 (.same (.bl _))
theorem sE_or {a b : Expr} {rest : List Expr} {ca cr : S → Oc R} {p : Pos} (ha : PE X a (tE T X.K B W ca)) (hr : PE X (.BoolOp .Or (b :: rest) p) (tE T X.K B W cr)) :
    PE X (.BoolOp .Or (a :: b :: rest) p) (tE T X.K B W fun s => (asB (ca s)).bind fun t s1 => if t = true then .ok (.va (.bl true)) s1 else cr s1) := pe_imp (pe_or ha hr) fun σ H Q ⟨G, s, hR, q⟩ => by
  refine ⟨G, s, hR, at_asB q (.refl _ _ _ _) fun t s1 G1 H1 z1 R1 q1 => ⟨t, rfl, ?_⟩⟩
  cases t with
  | true => exact at_new q1 z1 R1 (.same (.bl _))
  | false => exact ⟨G1, s1, R1, at_tail back_R q1 z1⟩
theorem sE_not {a : Expr} {ca : S → Oc R} {p : Pos} (ha : PE X a (tE T X.K B W ca)) : PE X (.UnaryOp .Not a p) (tE T X.K B W fun s => (asB (ca s)).bind fun t s1 => .ok (.va (.bl (!t))) s1) := pe_imp (pe_not ha) fun σ H Q ⟨G, s, hR, q⟩ => by
  exact ⟨G, s, hR, at_asB q (.refl _ _ _ _) fun t s1 G1 H1 z1 R1 q1 => ⟨t, rfl, at_new q1 z1 R1 (.same (.bl _))⟩⟩
theorem sE_ife {t a b : Expr} {ct ca cb : S → Oc R} {p : Pos} (ht : PT X t (tT T X.K B W fun s => asB (ct s))) (ha : PE X a (tE T X.K B W ca)) (hb : PE X b (tE T X.K B W cb)) :
    PE X (.IfExp t a b p) (tE T X.K B W fun s => (asB (ct s)).bind fun t s1 => if t = true then ca s1 else cb s1) := pe_imp (pe_ifExp ht ha hb) fun σ H Q ⟨G, s, hR, q⟩ => by
  refine ⟨G, s, hR, at_bind q (.refl _ _ _ _) fun t s1 G1 H1 b st z1 R1 p1 q1 => ?_⟩
  cases (show b = t from p1)
  cases t with
  | true => exact ⟨G1, s1, R1, at_tail back_R q1 z1⟩
  | false => exact ⟨G1, s1, R1, at_tail back_R q1 z1⟩
/-- tests -/
theorem sT_val {e : Expr} {c : S → Oc R} (h : PE X e (tE T X.K B W c)) (he : ∀ whole, isTrue e X.env whole = (do let v ← whole; standAt e.pos; holding [v] (truthy v))) : PT X e (tT T X.K B W fun s => asB (c s)) := pt_imp (pt_val h he) fun σ H Q ⟨G, s, hR, q⟩ => by
  have q : At T X.K B W PB ((asB (c s)).bind fun t s => .ok t s) G s σ H Q := by
    revert q
    show At T X.K B W PB (asB (c s)) G s σ H Q → _
    cases asB (c s) <;> exact fun q => q
  exact ⟨G, s, hR, at_asB q (.refl _ _ _ _) fun t s1 G1 H1 z1 R1 q1 => ⟨t, rfl, q1 _ _ _ z1 R1 rfl⟩⟩
theorem asB_ok (b : Bool) (s : S) : asB (.ok (.va (.bl b)) s) = .ok b s := rfl
theorem asB_bind2 {α : Type} {o : Oc α} {f : α → S → Oc R} : asB (o.bind f) = o.bind fun a s => asB (f a s) := by
  cases o <;> rfl
theorem sT_not {a : Expr} {ca : S → Oc R} {p : Pos} (ha : PT X a (tT T X.K B W fun s => asB (ca s))) : PT X (.UnaryOp .Not a p) (tT T X.K B W fun s => asB ((asB (ca s)).bind fun t s1 => .ok (.va (.bl (!t))) s1)) := pt_imp (pt_not ha) fun σ H Q ⟨G, s, hR, q⟩ => by
  dsimp only at q
  rw [asB_bind2] at q
  refine ⟨G, s, hR, at_bind q (.refl _ _ _ _) fun t s1 G1 H1 b st z1 R1 p1 q1 => ?_⟩
  cases (show b = t from p1)
  exact q1 _ _ _ z1 R1 rfl
theorem sW_and {a b : Expr} {rest : List Expr} {ca cr : S → Oc R} {p : Pos} (ha : PT X a (tT T X.K B W fun s => asB (ca s))) (hr : PW X (.BoolOp .And (b :: rest) p) (tT T X.K B W fun s => asB (cr s))) :
    PW X (.BoolOp .And (a :: b :: rest) p) (tT T X.K B W fun s => asB ((asB (ca s)).bind fun t s1 => if t = true then cr s1 else .ok (.va (.bl false)) s1)) := pw_imp (pw_and ha hr) fun σ H Q ⟨G, s, hR, q⟩ => by
  dsimp only at q
  rw [asB_bind2] at q
  refine ⟨G, s, hR, at_bind q (.refl _ _ _ _) fun t s1 G1 H1 b st z1 R1 p1 q1 => ?_⟩
  cases (show b = t from p1)
  cases t with
  | true => exact ⟨G1, s1, R1, at_tail back_B q1 z1⟩
  | false => exact q1 _ _ _ z1 R1 rfl
theorem sW_or {a b : Expr} {rest : List Expr} {ca cr : S → Oc R} {p : Pos} (ha : PT X a (tT T X.K B W fun s => asB (ca s))) (hr : PW X (.BoolOp .Or (b :: rest) p) (tT T X.K B W fun s => asB (cr s))) :
    PW X (.BoolOp .Or (a :: b :: rest) p) (tT T X.K B W fun s => asB ((asB (ca s)).bind fun t s1 => if t = true then .ok (.va (.bl true)) s1 else cr s1)) := pw_imp (pw_or ha hr) fun σ H Q ⟨G, s, hR, q⟩ => by
  dsimp only at q
  rw [asB_bind2] at q
  refine ⟨G, s, hR, at_bind q (.refl _ _ _ _) fun t s1 G1 H1 b st z1 R1 p1 q1 => ?_⟩
  cases (show b = t from p1)
  cases t with
  | true => exact q1 _ _ _ z1 R1 rfl
  | false => exact ⟨G1, s1, R1, at_tail back_B q1 z1⟩
theorem sT_cmp {a b : Expr} {ca cb : S → Oc R} {o : CmpOp} {p : Pos} (hu : X.A.units + 64 < cLine) (hm : behindInMarks o b = false) (ha : PE X a (tE T X.K B W ca)) (hb : PE X b (tE T X.K B W cb)) :
    PT X (.Compare a [o] [b] p) (tT T X.K B W fun s => asB ((ca s).bind fun x s1 => (cb s1).bind fun y s2 => match view s2 x, view s2 y with
    | some u, some v => opt ((cmpV o u v).map fun t => .va (.bl t)) s2
    | _, _ => .bad)) := pt_imp (pt_cmpR (opr_cmp hu o) ha hb hm) fun σ H Q ⟨G, s, hR, q⟩ => by
  dsimp only at q
  rw [asB_bind2] at q
  refine ⟨G, s, hR, at_bind q (.refl _ _ _ _) fun x s1 G1 H1 v1 st1 z1 R1 p1 q1 => ⟨G1, s1, R1, ?_⟩⟩
  rw [asB_bind2] at q1
  refine at_bind q1 z1 fun y s2 G2 H2 v2 st2 z2 R2 p2 q2 => ?_
  split at q2
  · rename_i u v hu hv
    cases hr : cmpV o u v with
    | none => rw [hr] at q2; exact q2.elim
    | some t =>
      rw [hr] at q2
      exact cmp_ok hr (view_ok R2 (RR.mono p1 st2) hu) (view_ok R2 p2 hv) ⟨t, rfl, q2 G2 H2 _ z2 R2 rfl⟩
  · exact q2.elim
theorem sT_chain {a b c : Expr} {ca cb cc : S → Oc R} {o o' : CmpOp} {p : Pos} (hu : X.A.units + 64 < cLine) (hm : lastMarks [o, o'] [b, c] = false) (ha : PE X a (tE T X.K B W ca)) (hb : PE X b (tE T X.K B W cb)) (hc : PE X c (tE T X.K B W cc)) :
    PT X (.Compare a [o, o'] [b, c] p) (tT T X.K B W fun s => asB ((ca s).bind fun x s1 => (cb s1).bind fun y s2 => match view s2 x, view s2 y with
    | some u, some v => match cmpV o u v with
      | some true => (cc s2).bind fun z s3 => match view s3 y, view s3 z with
        | some v, some w => opt ((cmpV o' v w).map fun t => .va (.bl t)) s3
        | _, _ => .bad
      | some false => .ok (.va (.bl false)) s2
      | none => .bad
    | _, _ => .bad)) := pt_imp (pt_chain (opr_cmp hu o) (opr_cmp hu o') ha hb hc hm) fun σ H Q ⟨G, s, hR, q⟩ => by
  dsimp only at q
  rw [asB_bind2] at q
  refine ⟨G, s, hR, at_bind q (.refl _ _ _ _) fun x s1 G1 H1 v1 st1 z1 R1 p1 q1 => ⟨G1, s1, R1, ?_⟩⟩
  rw [asB_bind2] at q1
  refine at_bind q1 z1 fun y s2 G2 H2 v2 st2 z2 R2 p2 q2 => ?_
  split at q2
  · rename_i u v hu hv
    split at q2
    · rename_i hr
      refine cmp_ok hr (view_ok R2 (RR.mono p1 st2) hu) (view_ok R2 p2 hv) ⟨true, rfl, ?_⟩
      rw [if_pos rfl]
      rw [asB_bind2] at q2
      refine ⟨G2, s2, R2, at_bind q2 z2 fun z s3 G3 H3 v3 st3 z3 R3 p3 q3 => ?_⟩
      split at q3
      · rename_i v' w' hv' hw'
        cases hr : cmpV o' v' w' with
        | none => rw [hr] at q3; exact q3.elim
        | some t =>
          rw [hr] at q3
          exact cmp_ok hr (view_ok R3 (RR.mono p2 st3) hv') (view_ok R3 p3 hw') ⟨t, rfl, q3 _ _ _ z3 R3 rfl⟩
      · exact q3.elim
    · rename_i hr
      refine cmp_ok hr (view_ok R2 (RR.mono p1 st2) hu) (view_ok R2 p2 hv) ⟨false, rfl, ?_⟩
      rw [if_neg Bool.false_ne_true]
      exact ⟨false, rfl, q2 _ _ _ z2 R2 rfl⟩
    · exact q2.elim
  · exact q2.elim
end
end BB

namespace BB
open PySem PySem.Spec PyProof.Rows L2
/-- arguments, none of them starred -/
def Plain (env : Env) (es : List Expr) : Prop := ∀ e r, es = e :: r → starEach (e :: r) env = (false, eval e env) :: starEach r env ∧ (backTo default (starEach r env)).any (·.1) = false
section
variable {T : Tab} {B : Bs} {W : WX} {X : Cx}
theorem sE_bi {b : Bi} {e : Expr} {es : List Expr} {cs : S → Oc (List R)} {px p : Pos} (hc : X.calm = true) (hg : Gl X b.name) (hm : X.mg b.name = none) (ha : PA X (e :: es) (tL T X.K B W cs))
    (he : starEach (e :: es) X.env = (false, eval e X.env) :: starEach es X.env) (hpl : (backTo p (starEach es X.env)).any (·.1) = false) :
    PE X (.Call (.Name b.name px) (e :: es) [] p) (tE T X.K B W fun s => (cs s).bind fun rs s1 => match views s1 rs with
    | some vs => opt (biV b vs) s1
    | none => .bad) := by
  have h : PE X (.Call (.Name b.name px) (e :: es) [] p) (tCB (rBi X.K b) (tL T X.K B W cs)) := by
    have hv := b.boot
    have hn := b.ne
    have hd := b.nd
    have hr := callR_bi hc b
    cases b <;> first
      | exact pe_callB hr hg hm hv ha hn hd he hpl
      | exact pe_callTy hr hg hm hv ha hn hd he hpl
  refine pe_imp h fun σ H Q ⟨G, s, hR, q⟩ => ?_
  refine ⟨G, s, hR, at_bind q (.refl _ _ _ _) fun rs s1 G1 H1 vs st1 z1 R1 p1 q1 => ?_⟩
  split at q1
  · rename_i ws hw
    obtain ⟨r, hr, q2⟩ := opt_at q1
    exact bi_ok hr (RRs.views R1 p1 hw) fun H' w n => at_new q2 z1 R1 n
  · exact q1.elim
theorem Mt.facts (m : Mt) (h : m.id ∈ ["str.count", "str.split", "str.join", "str.upper", "str.startswith", "str.endswith", "str.index"]) : PlainAttrs "str" ∧ PySem.Slot "str" m.name m.id ∧ typeOf (.builtin m.id) = pure (.type "method_descriptor") := by
  cases m <;> first
    | exact ⟨PySem.F.plainAttrs_str, PySem.F.slot_str_count, PySem.F.type_str_count⟩
    | exact ⟨PySem.F.plainAttrs_str, PySem.F.slot_str_split, PySem.F.type_str_split⟩
    | exact ⟨PySem.F.plainAttrs_str, PySem.F.slot_str_join, PySem.F.type_str_join⟩
    | exact ⟨PySem.F.plainAttrs_str, PySem.F.slot_str_upper, PySem.F.type_str_upper⟩
    | exact ⟨PySem.F.plainAttrs_str, PySem.F.slot_str_startswith, PySem.F.type_str_startswith⟩
    | exact ⟨PySem.F.plainAttrs_str, PySem.F.slot_str_endswith, PySem.F.type_str_endswith⟩
    | exact ⟨PySem.F.plainAttrs_str, PySem.F.slot_str_index, PySem.F.type_str_index⟩
    | exact absurd h (by decide)
theorem dkey_of {d : D} {k : Key} (h : keyD d = some k) : dkey d = some (.inl k) := by
  cases d <;> first | (cases h; done) | (injection h with h; subst h; rfl)
theorem sE_mt {m : Mt} {o e : Expr} {es : List Expr} {co : S → Oc R} {cs : S → Oc (List R)} {pa p : Pos} (hi : m.id ∈ ["str.count", "str.split", "str.join", "str.upper", "str.startswith", "str.endswith", "str.index"]) (ho : PE X o (tE T X.K B W co)) (ha : PA X (e :: es) (tL T X.K B W cs))
    (hbase : attributeBase o m.name X.env (eval o X.env) = eval o X.env) (he : starEach (e :: es) X.env = (false, eval e X.env) :: starEach es X.env) (hpl : (backTo p (starEach es X.env)).any (·.1) = false)
    (hfew : ((backTo p (starEach (e :: es) X.env)).all (fun x => !x.1) && (backToKw p (keywordEach [] X.env)).all (fun x => x.1.isSome)
      && decide ((e :: es).length + ([] : List Keyword).length + (if ([] : List Keyword).isEmpty then 0 else 1) < 30)) = true)
    (hline : (pa.endLine == p.line) = true) : PE X (.Call (.Attribute o m.name pa) (e :: es) [] p) (tE T X.K B W fun s => (co s).bind fun x s1 => match x with
    | .va (.str a) => (cs s1).bind fun rs s2 => match views s2 rs with
      | some vs => opt (mtV m (.at (.str a)) vs) s2
      | _ => .bad
    | _ => .bad) := by
  obtain ⟨f1, f2, f3⟩ := m.facts hi
  refine pe_imp (pe_bm f1 f2 f3 (mtR m) ho ha hbase hfew hline he hpl) fun σ H Q ⟨G, s, hR, q⟩ => ?_
  refine ⟨G, s, hR, at_bind q (.refl _ _ _ _) fun x s1 G1 H1 v1 st1 z1 R1 p1 q1 => ?_⟩
  split at q1
  · rename_i a
    obtain rfl : v1 = .str a := by cases p1 with | va p1 => cases p1; rfl
    refine ⟨rfl, G1, s1, R1, at_bind q1 z1 fun rs s2 G2 H2 vs st2 z2 R2 p2 q2 => ?_⟩
    split at q2
    · rename_i ws hw
      obtain ⟨r, hr, q3⟩ := opt_at q2
      exact (mt_ok hr (.at (.str a)) (RRs.views R2 p2 hw) fun H' w n => at_new q3 z2 R2 n).2
    · exact q2.elim
  · exact q1.elim
theorem sE_mt0 {m : Mt} {o : Expr} {co : S → Oc R} {pa p : Pos} (hi : m.id ∈ ["str.count", "str.split", "str.join", "str.upper", "str.startswith", "str.endswith", "str.index"]) (ho : PE X o (tE T X.K B W co))
    (hbase : attributeBase o m.name X.env (eval o X.env) = eval o X.env) (hline : (pa.endLine == p.line) = true) : PE X (.Call (.Attribute o m.name pa) [] [] p) (tE T X.K B W fun s => (co s).bind fun x s1 => match x with
    | .va (.str a) => (Oc.ok ([] : List R) s1).bind fun rs s2 => match views s2 rs with
      | some vs => opt (mtV m (.at (.str a)) vs) s2
      | _ => .bad
    | _ => .bad) := by
  obtain ⟨f1, f2, f3⟩ := m.facts hi
  refine pe_imp (pe_bm0 f1 f2 f3 (mtR m) ho hbase hline) fun σ H Q ⟨G, s, hR, q⟩ => ?_
  refine ⟨G, s, hR, at_bind q (.refl _ _ _ _) fun x s1 G1 H1 v1 st1 z1 R1 p1 q1 => ?_⟩
  split at q1
  · rename_i a
    obtain rfl : v1 = .str a := by cases p1 with | va p1 => cases p1; rfl
    obtain ⟨r, hr, q3⟩ := opt_at q1
    exact ⟨rfl, (mt_ok hr (.at (.str a)) .nil fun H' w n => at_new q3 z1 R1 n).2⟩
  · exact q1.elim
theorem sE_ix {a b : Expr} {ca cb : S → Oc R} {p : Pos} (ha : PE X a (tE T X.K B W ca)) (hb : PE X b (tE T X.K B W cb)) (hp : PlainIx b) : PE X (.Subscript a b p) (tE T X.K B W fun s => (ca s).bind fun x s1 => (cb s1).bind fun y s2 => match view s2 x, view s2 y with
    | some u, some v => opt ((ixV u v).map .va) s2
    | _, _ => .bad) := pe_imp (pe_ix (ix_list.or (ix_tup.or ix_str)) ha hb hp) fun σ H Q ⟨G, s, hR, q⟩ => by
  refine ⟨G, s, hR, at_bind q (.refl _ _ _ _) fun x s1 G1 H1 v1 st1 z1 R1 p1 q1 => ⟨G1, s1, R1, at_bind q1 z1 fun y s2 G2 H2 v2 st2 z2 R2 p2 q2 => ?_⟩⟩
  split at q2
  · rename_i u v hu hv
    obtain ⟨r, hr, q3⟩ := opt_at q2
    cases h : ixV u v with
    | none => rw [h] at hr; cases hr
    | some d =>
      rw [h] at hr; injection hr with hr; subst hr
      exact ix_ok h (view_ok R2 (RR.mono p1 st2) hu) (view_ok R2 p2 hv) fun x rx => at_new q3 z2 R2 (.same rx)
  · exact q2.elim
abbrev tO (c : S → Oc (Option Int)) : TO := tG T X.K B W PO1 c
theorem sO_no : PO X none (tO (T := T) (B := B) (W := W) (X := X) fun s => .ok none s) := ⟨fun pins s σ H Q I ⟨G, s', hR, q⟩ => po_none.run pins s σ H Q I (q G H none (.refl _ _ _ _) hR rfl)⟩
theorem sO_so {e : Expr} {c : S → Oc R} (h : PE X e (tE T X.K B W c)) : PO X (some e) (tO (T := T) (B := B) (W := W) (X := X) fun s => (c s).bind fun r s1 => match r with
    | .va (.int i) => .ok (some i) s1
    | _ => .bad) := ⟨fun pins s σ H Q I ⟨G, s', hR, q⟩ => (po_some h).run pins s σ H Q I (by
  refine ⟨G, s', hR, at_bind q (.refl _ _ _ _) fun x s1 G1 H1 v1 st1 z1 R1 p1 q1 => ?_⟩
  split at q1
  · cases p1 with | va p1 => cases p1 with | int i => exact ⟨_, rfl, q1 _ _ _ z1 R1 rfl⟩
  · exact q1.elim)⟩
theorem sE_sl {a : Expr} {lo hi : Option Expr} {ca : S → Oc R} {cl ch : S → Oc (Option Int)} {ps p : Pos} (ha : PE X a (tE T X.K B W ca)) (hl : PO X lo (tO (T := T) (B := B) (W := W) (X := X) cl)) (hh : PO X hi (tO (T := T) (B := B) (W := W) (X := X) ch)) :
    PE X (.Subscript a (.Slice lo hi none ps) p) (tE T X.K B W fun s => (ca s).bind fun x s1 => (cl s1).bind fun l s2 => (ch s2).bind fun h s3 => match view s3 x with
    | some u => opt (slV u l h) s3
    | none => .bad) := pe_imp (pe_slice (sl_list.or (sl_tupA.or sl_str)) ha hl hh) fun σ H Q ⟨G, s, hR, q⟩ => by
  refine ⟨G, s, hR, at_bind q (.refl _ _ _ _) fun x s1 G1 H1 v1 st1 z1 R1 p1 q1 => ⟨G1, s1, R1, at_bind q1 z1 fun l s2 G2 H2 l' st2 z2 R2 p2 q2 => ⟨G2, s2, R2, at_bind q2 z2 fun h s3 G3 H3 h' st3 z3 R3 p3 q3 => ?_⟩⟩⟩
  cases (show l' = l from p2)
  cases (show h' = h from p3)
  split at q3
  · rename_i u hu
    obtain ⟨r, hr, q4⟩ := opt_at q3
    exact sl_ok hr (view_ok R3 (RR.mono p1 (st2.trans st3)) hu) fun H' w n => at_new q4 z3 R3 n
  · exact q3.elim
theorem VW.isD {K : PySem.W.Frag} {G : Gh} {H : Hp} {v : V} {t : Bool} {l : List (D × D)} (h : VW T K G H v (.dc t l)) : ∃ a, v = .ref a ∧ IsD H a := by
  cases h with
  | dcK e _ => exact ⟨_, rfl, .inl ⟨_, .inl e⟩⟩
  | dcT e _ => exact ⟨_, rfl, .inr ⟨_, .inl e⟩⟩
theorem VW.dget {K : PySem.W.Frag} {G : Gh} {H : Hp} {v : V} {l : List (D × D)} (k : Key) (h : VW T K G H v (.dc false l)) :
    ∃ a, v = .ref a ∧ ((DGet H a (kV k) none ∧ BB.dget (.inl k) l = none) ∨ ∃ v d, DGet H a (kV k) (some v) ∧ BB.dget (.inl k) l = some d ∧ RV T K G H v d) := by
  cases h with
  | dcK e r =>
    refine ⟨_, rfl, ?_⟩
    rcases r.get k with ⟨h1, h2⟩ | ⟨v, d, h1, h2, h3⟩
    · exact .inl ⟨.inl ⟨_, k, .inl e, rfl, h1.symm⟩, h2⟩
    · exact .inr ⟨v, d, .inl ⟨_, k, .inl e, rfl, h1.symm⟩, h2, h3⟩
theorem sE_dix {a b : Expr} {ca cb : S → Oc R} {p : Pos} (hu : X.A.units + 1 < cLine) (ha : PE X a (tE T X.K B W ca)) (hb : PE X b (tE T X.K B W cb)) (hp : NoSl b) : PE X (.Subscript a b p) (tE T X.K B W fun s => (ca s).bind fun x s1 => (cb s1).bind fun y s2 => match view s2 x, keepR y with
    | some (.dc false l), some k => match keyD k with
      | some q => opt ((dget (.inl q) l).map .va) s2
      | none => .bad
    | _, _ => .bad) := pe_imp (pe_dget hu ha hb hp) fun σ H Q ⟨G, s, hR, q⟩ => by
  refine ⟨G, s, hR, at_bind q (.refl _ _ _ _) fun x s1 G1 H1 v1 st1 z1 R1 p1 q1 => ⟨G1, s1, R1, at_bind q1 z1 fun y s2 G2 H2 v2 st2 z2 R2 p2 q2 => ?_⟩⟩
  split at q2
  · rename_i l k hu hk
    split at q2
    · rename_i kk hkk
      obtain ⟨r, hr, q3⟩ := opt_at q2
      obtain ⟨G3, st3, R3, rv⟩ := keep1 R2 st2 p2 hk
      rw [key_of (dkey_of hkk) rv]
      obtain ⟨a, rfl, g⟩ := (view_ok R2 (RR.mono p1 st2) hu).dget kk
      rcases g with ⟨_, g⟩ | ⟨v, d, g1, g2, g3⟩
      · rw [g] at hr; cases hr
      · rw [g2] at hr; injection hr with hr; subst hr
        exact ⟨a, v, rfl, g1, at_new q3 z2 R2 (.same g3)⟩
    · exact q2.elim
  · exact q2.elim
/-- a test's reading from the value's -/
theorem asB_at {o : Oc R} {G : Gh} {s : S} {σ : St} {H : Hp} {Q : Bool → Hp → Prop} (h : At T X.K B W PB (asB o) G s σ H Q) : At T X.K B W (PR T X.K B) o G s σ H fun v H => ∃ c, v = .bl c ∧ Q c H := by
  cases o with
  | ok r s1 =>
    cases r with
    | va d =>
      cases d with
      | bl b =>
        intro G1 H1 v st R1 p1
        have q := h G1 H1 b st R1 rfl
        have p1 : RR T X.K B s H G1 s1 σ H1 v (.va (.bl b)) := p1
        cases p1 with
        | va z => cases z; exact ⟨b, rfl, q⟩
      | _ => exact h.elim
    | _ => exact h.elim
  | ex n fs s1 => exact h
  | bad => exact h
theorem pc_imp {op : CmpOp} {a b : Expr} {t t' : TE} (h : PC X op a b t) (i : ∀ σ H Q, t' σ H Q → t σ H Q) : PC X op a b t' := ⟨fun pins s σ H Q I q => h.run pins s σ H Q I (i σ H Q q)⟩
def dinC (n : Bool) (ca cb : S → Oc R) (s : S) : Oc R := (ca s).bind fun x s1 => (cb s1).bind fun y s2 => match keepR x, view s2 y with
    | some k, some (.dc false l) => match keyD k with
      | some q => .ok (.va (.bl (if n = true then !(dget (.inl q) l).isSome else (dget (.inl q) l).isSome))) s2
      | none => .bad
    | _, _ => .bad
theorem din_at {ca cb : S → Oc R} {n : Bool} {σ : St} {H : Hp} {Q : VK} (h : tE T X.K B W (dinC n ca cb) σ H Q) :
    tE T X.K B W ca σ H fun y H1 => tE T X.K B W cb σ H1 fun x H2 => ∃ a o, x = .ref a ∧ DGet H2 a y o ∧ Q (.bl (if n = true then !o.isSome else o.isSome)) H2 := by
  obtain ⟨G, s, hR, q⟩ := h
  refine ⟨G, s, hR, at_bind q (.refl _ _ _ _) fun x s1 G1 H1 v1 st1 z1 R1 p1 q1 => ⟨G1, s1, R1, at_bind q1 z1 fun y s2 G2 H2 v2 st2 z2 R2 p2 q2 => ?_⟩⟩
  split at q2
  · rename_i k l hk hu
    split at q2
    · rename_i kk hkk
      obtain ⟨G3, st3, R3, rv⟩ := keep1 R2 (st1.trans st2) (RR.mono p1 st2) hk
      rw [key_of (dkey_of hkk) rv]
      obtain ⟨a, rfl, g⟩ := (view_ok R2 p2 hu).dget kk
      rcases g with ⟨g1, g⟩ | ⟨v, d, g1, g2, g3⟩
      · rw [g] at q2
        exact ⟨a, none, rfl, g1, q2 G2 H2 _ z2 R2 (.va (.bl _))⟩
      · rw [g2] at q2
        exact ⟨a, some v, rfl, g1, q2 G2 H2 _ z2 R2 (.va (.bl _))⟩
    · exact q2.elim
  · exact q2.elim
theorem sC_din {a b : Expr} {ca cb : S → Oc R} {n : Bool} (hu : X.A.units + 1 < cLine) (ha : PE X a (tE T X.K B W ca)) (hb : PE X b (tE T X.K B W cb)) : PC X (if n = true then .NotIn else .In) a b (tE T X.K B W (dinC n ca cb)) := by
  cases n with
  | true => exact pc_imp (pc_dnotin hu ha hb) fun σ H Q q => din_at q
  | false => exact pc_imp (pc_din hu ha hb) fun σ H Q q => din_at q
theorem sE_din {a b : Expr} {ca cb : S → Oc R} {n : Bool} {p : Pos} (hu : X.A.units + 1 < cLine) (ha : PE X a (tE T X.K B W ca)) (hb : PE X b (tE T X.K B W cb)) (hm : behindInMarks (if n = true then .NotIn else .In) b = false) :
    PE X (.Compare a [if n = true then .NotIn else .In] [b] p) (tE T X.K B W (dinC n ca cb)) := pe_cmp (sC_din hu ha hb) hm
theorem sT_din {a b : Expr} {ca cb : S → Oc R} {n : Bool} {p : Pos} (hu : X.A.units + 1 < cLine) (ha : PE X a (tE T X.K B W ca)) (hb : PE X b (tE T X.K B W cb)) (hm : behindInMarks (if n = true then .NotIn else .In) b = false) :
    PT X (.Compare a [if n = true then .NotIn else .In] [b] p) (tT T X.K B W fun s => asB (dinC n ca cb s)) := pt_imp (pt_cmp (sC_din hu ha hb) hm) fun σ H Q ⟨G, s, hR, q⟩ => ⟨G, s, hR, asB_at q⟩
theorem RVs.rvs {K : PySem.W.Frag} {G : Gh} {H : Hp} : ∀ {vs : List V} {l : List D}, RVs T K G H vs l → RVs T K G H vs.reverse l.reverse
  | _, _, .nil => .nil
  | _, _, .cons r t => by
    rw [List.reverse_cons, List.reverse_cons]
    exact (RVs.rvs t).append (.cons r .nil)
theorem sE_rvt {a : Expr} {ca : S → Oc R} {k : Nat} {p1 p2 p3 p : Pos} (ha : PE X a (tE T X.K B W ca)) : PE X (.Subscript a (.Slice none none (some (.UnaryOp .USub (.Constant (.int 1) k p1) p2)) p3) p) (tE T X.K B W fun s => (ca s).bind fun x s1 => match view s1 x with
    | some (.at (.tup l)) => .ok (.va (.tup l.reverse)) s1
    | _ => .bad) := pe_imp (pe_rvt ha) fun σ H Q ⟨G, s, hR, q⟩ => by
  refine ⟨G, s, hR, at_bind q (.refl _ _ _ _) fun x s1 G1 H1 v1 st1 z1 R1 p1 q1 => ?_⟩
  split at q1
  · rename_i l hu
    have w := view_ok R1 p1 hu
    cases w with
    | «at» c => cases c with
      | tup sq rs => exact ⟨_, _, rfl, sq, fun p hp => at_new q1 z1 R1 (.tup hp rs.rvs)⟩
  · exact q1.elim
theorem sE_get2 {o a b : Expr} {co ca cb : S → Oc R} {pa p : Pos} (hu : X.A.units + 1 < cLine) (ho : PE X o (tE T X.K B W co)) (ha : PE X a (tE T X.K B W ca)) (hb : PE X b (tE T X.K B W cb)) (m : M2 X o "get" pa a b p) : PE X (.Call (.Attribute o "get" pa) [a, b] [] p) (tE T X.K B W fun s => (co s).bind fun x s1 => match view s1 x with
    | some (.dc false _) => (ca s1).bind fun y s2 => (cb s2).bind fun z s3 => match view s3 x, keepRs [y, z] with
      | some (.dc false l), some [k, d] => match keyD k with
        | some q => .ok (.va ((dget (.inl q) l).getD d)) s3
        | none => .bad
      | _, _ => .bad
    | _ => .bad) := pe_imp (pe_dget2 hu ho ha hb m) fun σ H Q ⟨G, s, hR, q⟩ => by
  refine ⟨G, s, hR, at_bind q (.refl _ _ _ _) fun x s1 G1 H1 v1 st1 z1 R1 p1 q1 => ?_⟩
  split at q1
  · rename_i l0 hl0
    obtain ⟨a0, rfl, isd⟩ := (view_ok R1 p1 hl0).isD
    refine ⟨a0, rfl, isd, G1, s1, R1, at_bind q1 z1 fun y s2 G2 H2 v2 st2 z2 R2 p2 q2 => ⟨G2, s2, R2, at_bind q2 z2 fun z s3 G3 H3 v3 st3 z3 R3 p3 q3 => ?_⟩⟩
    split at q3
    · rename_i l k d hl hk
      split at q3
      · rename_i kk hkk
        have pr : RRs T X.K B s1 H1 G3 s3 σ H3 [v2, v3] [y, z] := .cons (p2.mono st3) (.cons (p3.back st2) .nil)
        obtain ⟨G4, st4, R4, rv⟩ := keepN R3 (st2.trans st3) pr hk
        cases rv with
        | cons r1 rv => cases rv with
          | cons r2 rv =>
            rw [key_of (dkey_of hkk) r1]
            have vw := view_ok R4 (RR.mono p1 st4) hl
            obtain ⟨a, e, g⟩ := vw.dget kk
            cases e
            rcases g with ⟨g1, g2⟩ | ⟨v, d', g1, g2, g3⟩
            · rw [g2] at q3
              exact ⟨none, g1, at_new q3 (z1.trans st4) R4 (.same r2)⟩
            · rw [g2] at q3
              exact ⟨some v, g1, at_new q3 (z1.trans st4) R4 (.same g3)⟩
      · exact q3.elim
    · exact q3.elim
  · exact q1.elim
end
end BB

namespace BB
open PySem PySem.Spec PyProof.Rows L2
section
variable {T : Tab} {K : PySem.W.Frag} {B : Bs} {W : WX}
/-- a fresh object is written -/
theorem pers_wr {G : Gh} {s0 s : S} {σ : St} {H0 H : Hp} {p : Addr} {o o' : HO} (f : Fresh B s0 H0 G s σ H p) (e : H p = some o) (mu : Mut (some o)) : Pers G H G (upd H p o') :=
  ⟨fun _ _ h => h, fun _ h => h, fun a h => upd_ne (fun z => f.nF (z ▸ h)), fun a xs h => by rw [upd_ne (fun z => by rw [z, e] at h; cases h; exact mu)]; exact h, fun a u v h => by rw [upd_ne (fun z => by rw [z, e] at h; cases h; exact mu)]; exact h, fun a xs h => by rw [upd_ne (fun z => by rw [z, e] at h; cases h; exact mu)]; exact h⟩
theorem Rel.wr {G : Gh} {s0 s : S} {σ : St} {H0 H : Hp} {p : Addr} {o o' : HO} (hR : Rel T K B G s σ H) (f : Fresh B s0 H0 G s σ H p) (e : H p = some o) (mu : Mut (some o)) : Rel T K B G s σ (upd H p o') := by
  have P : Pers G H G (upd H p o') := pers_wr f e mu
  refine ⟨hR.len, fun i x e1 => (hR.sl i x e1).mono P fun a u e2 ho e3 => ?_, hR.own1, hR.own2, ⟨hR.c.len, fun i x a e1 e2 => (hR.c.bx i x a e1 e2).mono P fun u q => ?_, hR.c.nd, hR.c.ioF, fun a h z => ?_⟩, ⟨hR.b.p.trans P, fun a u e1 n => ?_, fun a e1 z => ?_, hR.b.nio, hR.b.nF⟩⟩
  · rw [upd_ne]; exact e3
    rintro rfl
    exact f.now ⟨i, ⟨x, e1, ho⟩, e2⟩
  · rw [upd_ne]; exact q
    rintro rfl
    exact f.nio (List.mem_of_getElem? e2)
  · rw [upd_ne (by rintro rfl; exact f.nF h)] at z
    exact hR.c.Fd a h z
  · rw [upd_ne]; exact hR.b.keep a u e1 n
    rintro rfl
    rw [f.bn] at e1; cases e1
  · by_cases h : a = p
    · subst h; exact e1 f.bn
    · rw [upd_ne h] at z
      exact hR.b.dom a e1 z
theorem Stp.wr {G0 G : Gh} {s0 s : S} {σ : St} {H0 H : Hp} {p : Addr} {o o' : HO} (st : Stp σ G0 s0 H0 G s H) (f : Fresh B s0 H0 G s σ H p) (e : H p = some o) (mu : Mut (some o)) : Stp σ G0 s0 H0 G s (upd H p o') :=
  ⟨st.p.trans (pers_wr f e mu), fun a u h n no => by
    rw [upd_ne]
    · exact st.keep a u h n no
    · rintro rfl
      rcases f.st with z | z
      · rw [h] at z; cases z
      · exact no z, fun a h z => by
    by_cases q : a = p
    · subst q; rw [upd_same] at z; cases z
    · rw [upd_ne q] at z; exact st.dom a h z, st.nio, st.nF, st.ow⟩
theorem Fresh.wr {G : Gh} {s0 s : S} {σ : St} {H0 H : Hp} {p : Addr} {o' : HO} (f : Fresh B s0 H0 G s σ H p) : Fresh B s0 H0 G s σ (upd H p o') p := ⟨f.nF, f.nio, f.now, f.bn, f.st⟩
/-! pairs -/
inductive RRP (T : Tab) (K : PySem.W.Frag) (B : Bs) (s0 : S) (H0 : Hp) (G : Gh) (s : S) (σ : St) (H : Hp) : List (V × V) → List (R × R) → Prop
  | nil : RRP T K B s0 H0 G s σ H [] []
  | cons {v w : V} {r q : R} {vs : List (V × V)} {rs : List (R × R)} : RR T K B s0 H0 G s σ H v r → RR T K B s0 H0 G s σ H w q → RRP T K B s0 H0 G s σ H vs rs → RRP T K B s0 H0 G s σ H ((v, w) :: vs) ((r, q) :: rs)
def PRP (T : Tab) (K : PySem.W.Frag) (B : Bs) : PP (List (R × R)) (List (V × V)) := fun s0 H0 G s σ H v r => RRP T K B s0 H0 G s σ H v r
theorem RRP.back {σ : St} {G0 G1 G2 : Gh} {s0 s1 s2 : S} {H0 H1 H2 : Hp} (p : Stp σ G0 s0 H0 G1 s1 H1) : ∀ {vs : List (V × V)} {rs : List (R × R)}, RRP T K B s1 H1 G2 s2 σ H2 vs rs → RRP T K B s0 H0 G2 s2 σ H2 vs rs
  | _, _, .nil => .nil
  | _, _, .cons a b c => .cons (a.back p) (b.back p) (RRP.back p c)
def trs (T : Tab) (K : PySem.W.Frag) (B : Bs) (W : WX) (PG : Prog) (cl : Nat → List D → Sto → CR) : CP → List (TE × TE)
  | .nil => []
  | .cons k v r => (tE T K B W (ev PG cl k), tE T K B W (ev PG cl v)) :: trs T K B W PG cl r
theorem pairs_ok {PG : Prog} {cl : Nat → List D → Sto → CR} : ∀ (ps : CP) {G0 G : Gh} {s0 s : S} {σ : St} {H0 H : Hp} {Q : List (V × V) → Hp → Prop}, Rel T K B G s σ H → At T K B W (PRP T K B) (evP PG cl ps s) G s σ H Q → tPairs (trs T K B W PG cl ps) σ H Q
  | .nil, _, G, _, s, σ, _, H, Q, hR, q => by
    unfold evP at q
    exact q G H [] (.refl _ _ _ _) hR .nil
  | .cons k v r, _, G, _, s, σ, _, H, Q, hR, q => by
    unfold evP at q
    refine ⟨G, s, hR, at_bind q (.refl _ _ _ _) fun x s1 G1 H1 v1 st1 z1 R1 p1 q1 => ⟨G1, s1, R1, at_bind q1 z1 fun y s2 G2 H2 v2 st2 z2 R2 p2 q2 => ?_⟩⟩
    refine pairs_ok r (G0 := G2) (s0 := s2) (H0 := H2) R2 (at_bind q2 z2 fun rs s3 G3 H3 vs st3 z3 R3 p3 q3 => ?_)
    exact q3 G3 H3 _ z3 R3 (.cons (p1.mono (st2.trans st3)) ((p2.mono st3).back z1) (RRP.back z2 p3))
def frRP : List (V × V) → List (R × R) → Addr → Prop
  | v :: vs, r :: rs, a => frR v.1 r.1 a ∨ frR v.2 r.2 a ∨ frRP vs rs a
  | _, _, _ => False
theorem RRP.frA {σ : St} {G : Gh} {s s0 : S} {H H0 : Hp} {a : Addr} : ∀ {vs : List (V × V)} {rs : List (R × R)}, RRP T K B s0 H0 G s σ H vs rs → frRP vs rs a → (∃ o, H a = some o) ∧ Fresh B s0 H0 G s σ H a
  | _, _, .nil, z => z.elim
  | _, _, .cons q r t, z => z.elim (fun z => q.frA z) fun z => z.elim (fun z => r.frA z) fun z => RRP.frA t z
theorem dputs_ok {G : Gh} {H : Hp} {A : Addr → Prop} {σ : St} {s s0 : S} {H0 : Hp} : ∀ {vs : List (V × V)} {rs : List (R × R)} {ds acc l : List (D × D)} {kvs : List (Key × V)}, RRP T K B s0 H0 G s σ H vs rs → (∀ a, frRP vs rs a → A a) → keepPs rs = some ds → dputs acc ds = some l → RKs T K (addF G A) H kvs acc →
    ∃ more : List (Key × V), vs = more.map (fun kv => (kV kv.1, kv.2)) ∧ more.length = ds.length ∧ RKs T K (addF G A) H (mergeK kvs more) l
  | _, _, _, _, _, _, .nil, _, e, e2, h => by
    injection e with e; subst e; injection e2 with e2; subst e2
    exact ⟨[], rfl, rfl, h⟩
  | _, _, _, acc, _, kvs, .cons (v := v) (w := w) q r t, hA, e, e2, h => by
    unfold keepPs at e
    split at e
    · rename_i d1 d2 ds' h1 h2 h3
      injection e with e; subst e
      unfold dputs at e2
      split at e2
      · rename_i k hk
        have r1 := q.kept h1 fun a z => hA a (.inl z)
        have r2 := r.kept h2 fun a z => hA a (.inr (.inl z))
        obtain ⟨more, m1, m2, m3⟩ := dputs_ok t (fun a z => hA a (.inr (.inr z))) h3 e2 (h.put (dkey_of hk) r2)
        refine ⟨(k, w) :: more, ?_, by rw [List.length_cons, List.length_cons, m2], m3⟩
        rw [List.map_cons, ← m1, key_of (dkey_of hk) r1]
      · cases e2
    · cases e
end
section
variable {T : Tab} {B : Bs} {W : WX} {X : Cx}
theorem sE_dct {PG : Prog} {cl : Nat → List D → Sto → CR} {ps : CP} {p : Pos} (h : PPs X p ps.upK ps.upV (trs T X.K B W PG cl ps)) (hall : ps.upK.all (·.isSome) = true) (hl : ps.upK.length = ps.upV.length) (h0 : ps.upK ≠ []) (h15 : ps.upK.length ≤ 15) :
    PE X (.Dict ps.upK ps.upV p) (tE T X.K B W fun s => (evP PG cl ps s).bind fun l s1 => match keepPs l with
    | some q => if 0 < q.length ∧ q.length ≤ 15 then opt ((dputs [] q).map (.fd false)) s1 else .bad
    | none => .bad) := pe_imp (pe_disp h hall hl h0 h15) fun σ H Q ⟨G, s, hR, q⟩ => by
  intro a ha
  have R1 := hR.laid (o := .dK []) ha
  have S1 : Stp σ G s H G s (upd H a (.dK [])) := .laid hR ha
  have F1 := hR.fresh (o := .dK []) ha
  refine pairs_ok ps (G0 := G) (s0 := s) (H0 := H) R1 (at_bind q S1 fun l s1 G1 H1 vs st1 z1 R2 p1 q1 => ?_)
  split at q1
  · rename_i ds hk
    split at q1
    · rename_i hz
      obtain ⟨r, hr, q2⟩ := opt_at q1
      cases hd : dputs [] ds with
      | none => rw [hd] at hr; cases hr
      | some l' =>
        rw [hd] at hr; injection hr with hr; subst hr
        obtain ⟨F2, e2⟩ := F1.mono upd_same st1
        have p1' : RRP T X.K B s H G1 s1 σ H1 vs l := RRP.back S1 p1
        obtain ⟨S3, R3, P3⟩ := freeze (A := fun b => frRP vs l b) R2 st1 (fun b hb => p1.frA hb)
        obtain ⟨more, m1, m2, m3⟩ := dputs_ok (A := fun b => frRP vs l b) p1 (fun _ z => z) hk hd .nil
        refine ⟨e2, more, m1, by rw [m2]; exact hz.2, ?_⟩
        have nA : ¬ frRP vs l a := fun z => by
          have := (p1.frA z).2.st
          rcases this with z | z
          · rw [upd_same] at z; cases z
          · exact F1.now z
        have F3 : Fresh B s H (addF G1 fun b => frRP vs l b) s1 σ H1 a := ⟨fun z => z.elim F2.nF nA, F2.nio, F2.now, F2.bn, F2.st⟩
        have S4 : Stp σ G s H (addF G1 fun b => frRP vs l b) s1 H1 := S1.trans S3
        refine q2 _ _ _ (S4.wr F3 e2 trivial) (R3.wr F3 e2 trivial) (.fdK upd_same (m3.mono (pers_wr F3 e2 trivial)) F3.wr)
    · exact q1.elim
  · exact q1.elim
end
end BB

namespace BB
open PySem PySem.Spec PyProof.Rows L2
section
variable (T : Tab) (K : PySem.W.Frag)
/-- what a call hands back; H0: the heap ahead of it -/
inductive RRC (H0 : Hp) (G : Gh) (H : Hp) : V → R → Prop
  | va {v : V} {d : D} : RV T K G H v d → RRC H0 G H v (.va d)
  | fl {a : Addr} {vs : List V} {l : List D} : H a = some (.lst vs) → RVs T K G H vs l → ¬ G.F a → a ∉ G.io → H0 a = none → RRC H0 G H (.ref a) (.fl l)
  | fdK {a : Addr} {vs : List (Key × V)} {l : List (D × D)} : H a = some (.dK vs) → RKs T K G H vs l → ¬ G.F a → a ∉ G.io → H0 a = none → RRC H0 G H (.ref a) (.fd false l)
  | fdT {a : Addr} {vs : List (List Key × V)} {l : List (D × D)} : H a = some (.dT vs) → RTs T K G H vs l → ¬ G.F a → a ∉ G.io → H0 a = none → RRC H0 G H (.ref a) (.fd true l)
def CAt (o : CR) (G : Gh) (H : Hp) (Q : VK) (E : XK) : Prop := match o with
  | .ok r st' => ∀ G' H' v, Ext G H G' H' → RelC T K G' st' H' → RRC T K H G' H' v r → Q v H'
  | .ex c fs st' => ∀ G' H' cls d, Ext G H G' H' → RelC T K G' st' H' → ExR T K c fs cls d G' H' → E cls d H'
  | .bad => False
/-- a def's promise: what the run tells -/
def spF (PG : Prog) (k n : Nat) : Sp := fun vs H Q E => ∃ G ds st, RelC T K G st H ∧ RVs T K G H vs ds ∧ (∃ f, PG.fns[n]? = some f ∧ ds.length = f.ps) ∧ CAt T K (cal PG k n ds st) G H Q E
end
section
variable {T : Tab} {K : PySem.W.Frag} {B : Bs} {W : WX}
theorem Ext.trans {G G1 G2 : Gh} {H H1 H2 : Hp} (a : Ext G H G1 H1) (b : Ext G1 H1 G2 H2) : Ext G H G2 H2 where
  p := a.p.trans b.p
  keep := fun x o h n => b.keep x o (a.keep x o h n) fun q => by
    have := a.nio x q n
    rw [h] at this; cases this
  dom := fun x h => b.dom x (a.dom x h)
  nio := fun x h n => by
    by_cases q : x ∈ G1.io
    · exact a.nio x q n
    · have z := b.nio x h q
      cases e : H x with
      | none => rfl
      | some o => exact absurd z (a.dom x (by rw [e]; simp))
  nF := fun x h n => by
    by_cases q : G1.F x
    · exact a.nF x q n
    · have z := b.nF x h q
      cases e : H x with
      | none => rfl
      | some o => exact absurd z (a.dom x (by rw [e]; simp))
theorem Ext.notF {G G' : Gh} {H H' : Hp} {s : S} {σ : St} (x : Ext G H G' H') (hR : Rel T K B G s σ H) {a : Addr} (h : OwnA s σ a) : ¬ G'.F a ∧ a ∉ G'.io := by
  obtain ⟨u, e⟩ := hR.ownThere h
  have h1 := hR.own1 a h
  refine ⟨fun z => ?_, fun z => ?_⟩
  · have q := x.nF a z h1.1
    rw [e] at q; cases q
  · have q := x.nio a z h1.2.1
    rw [e] at q; cases q
theorem Rel.called {G G' : Gh} {H H' : Hp} {s : S} {σ : St} {st' : Sto} (hR : Rel T K B G s σ H) (x : Ext G H G' H') (c : RelC T K G' st' H') : Rel T K B G' ⟨s.env, st'⟩ σ H' := by
  refine ⟨hR.len, fun i y e => (hR.sl i y e).mono x.p fun a u e2 ho e3 => x.keep a u e3 (hR.own1 a ⟨i, ⟨y, e, ho⟩, e2⟩).2.1, fun a h => ?_, hR.own2, c, hR.b.trans x⟩
  have h : OwnA s σ a := h
  exact ⟨(x.notF hR h).1, (x.notF hR h).2, (hR.own1 a h).2.2⟩
theorem Stp.called {G G' : Gh} {H H' : Hp} {s : S} {σ : St} {st' : Sto} (x : Ext G H G' H') : Stp σ G s H G' ⟨s.env, st'⟩ H' :=
  ⟨x.p, fun a u h n _ => x.keep a u h n, x.dom, fun a h n => .inl (x.nio a h n), fun a h n => .inl (x.nF a h n), fun _ h => h⟩
theorem RRC.rr {G G' : Gh} {H H' : Hp} {s : S} {σ : St} {st' : Sto} {v : V} {r : R} (h : RRC T K H G' H' v r) (hR : Rel T K B G s σ H) : RR T K B s H G' ⟨s.env, st'⟩ σ H' v r := by
  have fr : ∀ {a : Addr}, ¬ G'.F a → a ∉ G'.io → H a = none → Fresh B s H G' ⟨s.env, st'⟩ σ H' a := fun {a} h1 h2 h3 => by
    refine ⟨h1, h2, fun z => ?_, ?_, .inl h3⟩
    · obtain ⟨u, e⟩ := hR.ownThere (show OwnA s σ a from z)
      rw [h3] at e; cases e
    · cases e : B.H a with
      | none => rfl
      | some u => exact absurd h3 (hR.b.dom a (by rw [e]; simp))
  cases h with
  | va q => exact .va q
  | fl e q a b c => exact .fl e q (fr a b c)
  | fdK e q a b c => exact .fdK e q (fr a b c)
  | fdT e q a b c => exact .fdT e q (fr a b c)
/-- a call's end in the frame -/
theorem call_at {PG : Prog} {k n : Nat} {ds : List D} {s0 s : S} {σ : St} {G0 G : Gh} {H0 H : Hp} {vs : List V} {Q : VK} (hR : Rel T K B G s σ H) (p0 : Stp σ G0 s0 H0 G s H) (rv : RVs T K G H vs ds)
    (h : At T K B W (PR T K B) (doCall (cal PG k) n ds s) G0 s0 σ H0 Q) : spF T K PG k n vs H Q (WE W σ) := by
  unfold doCall at h
  have hf : ∃ f, PG.fns[n]? = some f ∧ ds.length = f.ps := by
    cases k with
    | zero => exact h.elim
    | succ k =>
      unfold cal at h
      cases e : PG.fns[n]? with
      | none => rw [e] at h; exact h.elim
      | some f =>
        refine ⟨f, rfl, ?_⟩
        rw [e] at h
        dsimp only at h
        split at h
        · rename_i x; split at x
          · assumption
          · cases x
        · rename_i x; split at x
          · assumption
          · cases x
        · exact h.elim
  refine ⟨G, ds, s.st, hR.c, rv, hf, ?_⟩
  clear hf
  revert h
  cases cal PG k n ds s.st with
  | ok r st' => exact fun h G' H' v x c r => h G' H' v (p0.trans (.called x)) (hR.called x c) ((RRC.rr r hR).back p0)
  | ex c fs st' => exact fun h G' H' cls d x c r => h G' H' cls d (p0.p.trans x.p) (hR.called x c) r
  | bad => exact fun h => h
end
/-- what calls of the text's defs lean on -/
structure Fns (X : Cx) (PG : Prog) (T : Tab) (k : Nat) : Prop where
  fn : ∀ n f, PG.fns[n]? = some f → ∃ fd ps, ps.length = f.ps ∧ FnOk X.prog X.w X.K X.mg X.base (L2.CX X.prog X.w) k (T.f n) fd ps (spF T X.K PG k n) ∧ L2.Binds X.K fd ps [] ∧ PySem.W.keepIn X.K (.ref (T.f n)) = true
section
variable {T : Tab} {B : Bs} {W : WX} {X : Cx} {PG : Prog} {k : Nat}
theorem sE_call {n : Nat} {x : Str} {e : Expr} {es : List Expr} {cs : S → Oc (List R)} {px p : Pos} (F : Fns X PG T k) (hr : Room k X.A) (tk : L2.Takes X W) (hg : Gl X x) (hm : X.mg x = some (.ref (T.f n))) (hdb : (x == ("__debug__" : Str)) = false) (ha : PA X (e :: es) (tL T X.K B W cs))
    (he : starEach (e :: es) X.env = (false, eval e X.env) :: starEach es X.env) (hpl : (backTo p (starEach es X.env)).any (·.1) = false) (hin : ∃ f, PG.fns[n]? = some f) :
    PE X (.Call (.Name x px) (e :: es) [] p) (tE T X.K B W fun s => (cs s).bind fun rs s1 => match keepRs rs with
    | some ds => doCall (cal PG k) n ds s1
    | none => .bad) := by
  obtain ⟨f, hf⟩ := hin
  obtain ⟨fd, ps, hp, ok, bd, kp⟩ := F.fn n f hf
  refine pe_imp (pe_callS ok hr hg hm kp bd (fun σ => L2.passAt tk σ) ha hdb he hpl) fun σ H Q ⟨G, s, hR, q⟩ => ?_
  refine ⟨G, s, hR, at_bind q (.refl _ _ _ _) fun rs s1 G1 H1 vs st1 z1 R1 p1 q1 => ?_⟩
  split at q1
  · rename_i ds hk
    obtain ⟨G2, st2, R2, rv⟩ := keepN R1 z1 p1 hk
    exact call_at R2 st2 rv q1
  · exact q1.elim
/-- a call of a def that a local name holds -/
theorem sE_calv {i : Nat} {x : Str} {e : Expr} {es : List Expr} {cs : S → Oc (List R)} {px p : Pos} (F : Fns X PG T k) (hr : Room k X.A) (tk : L2.Takes X W) (hv : PE X (.Name x px) (tVar i)) (ha : PA X (e :: es) (tL T X.K B W cs))
    (he : starEach (e :: es) X.env = (false, eval e X.env) :: starEach es X.env) (hpl : (backTo p (starEach es X.env)).any (·.1) = false) :
    PE X (.Call (.Name x px) (e :: es) [] p) (tE T X.K B W fun s => match s.env[i]? with
    | some (.va (.fn n)) => if (PG.fns[n]?).isSome = true then (cs s).bind fun rs s1 => match keepRs rs with
      | some ds => doCall (cal PG k) n ds s1
      | none => .bad
      else .bad
    | _ => .bad) := by
  refine ⟨fun pins s σ H Q I ⟨G, S, hR, q⟩ => ?_⟩
  revert q
  dsimp only
  split
  · rename_i n en
    intro q
    split at q
    · rename_i hin
      obtain ⟨f, hf⟩ := Option.isSome_iff_exists.mp hin
      obtain ⟨fd, ps, hp, ok, bd, kp⟩ := F.fn n f hf
      have hs : σ[i]? = some (some (.ref (T.f n))) := by
        have z := hR.sl _ _ en
        cases z' : σ[i]? with
        | none => rw [z'] at z; cases z
        | some o => rw [z'] at z; cases z with
          | va r => cases r; rfl
      have callee := hv.run pins s σ H (fun v H1 => v = .ref (T.f n) ∧ H1 = H) I ⟨_, hs, rfl, rfl⟩
      refine wpAny_Call_Name_kw (thn callee fun u s1 hu => ?_)
      obtain ⟨v, H1, I1, r1, ev, eH⟩ := hu
      subst ev; subst eH
      cases r1
      have args := ha.run p pins s1 σ H1 (fun vs H2 => spF T X.K PG k n vs H2 Q (WE W σ)) I1 ⟨G, S, hR, at_bind q (.refl _ _ _ _) fun rs s1 G1 H1 vs st1 z1 R1 p1 q1 => by
        split at q1
        · rename_i ds hk
          obtain ⟨G2, st2, R2, rv⟩ := keepN R1 z1 p1 hk
          exact call_at R2 st2 rv q1
        · exact q1.elim⟩
      refine PySem.W.callWith_K (h₀ := X.base) I.ok.mod.kin kp (thn args fun us s2 hv2 => ?_) he hpl
      obtain ⟨vs, H2, I2, r, q2⟩ := hv2
      exact ⟨I2.kIn, run_fnS ok hr bd (L2.passAt tk σ) I2 r q2⟩
    · exact q.elim
  · exact fun q => q.elim
end
end BB

namespace BB
open PySem PySem.Spec PyProof.Rows L2
section
variable (T : Tab) (K : PySem.W.Frag) (B : Bs) (W : WX)
/-- what a return hands out -/
inductive RX (G : Gh) (H : Hp) : V → R → Prop
  | va {v : V} {d : D} : RV T K G H v d → RX G H v (.va d)
  | fl {a : Addr} {vs : List V} {l : List D} : H a = some (.lst vs) → RVs T K G H vs l → ¬ G.F a → a ∉ G.io → B.H a = none → RX G H (.ref a) (.fl l)
  | fdK {a : Addr} {vs : List (Key × V)} {l : List (D × D)} : H a = some (.dK vs) → RKs T K G H vs l → ¬ G.F a → a ∉ G.io → B.H a = none → RX G H (.ref a) (.fd false l)
  | fdT {a : Addr} {vs : List (List Key × V)} {l : List (D × D)} : H a = some (.dT vs) → RTs T K G H vs l → ¬ G.F a → a ∉ G.io → B.H a = none → RX G H (.ref a) (.fd true l)
  | own {v : V} {i : Nat} : RX G H v (.own i)
def FAt (f : Fl) (G0 : Gh) (H0 : Hp) (D : Ends) : Prop := match f with
  | .nx s' => ∀ G' σ' H', Pers G0 H0 G' H' → Rel T K B G' s' σ' H' → D.nx σ' H'
  | .bk s' => ∀ G' σ' H', Pers G0 H0 G' H' → Rel T K B G' s' σ' H' → D.bk σ' H'
  | .ct s' => ∀ G' σ' H', Pers G0 H0 G' H' → Rel T K B G' s' σ' H' → D.ct σ' H'
  | .rt r s' => ∀ G' σ' H' v, Pers G0 H0 G' H' → Rel T K B G' s' σ' H' → RX T K B G' H' v r → D.rt v H'
  | .ex n fs s' => ∀ G' σ' H' cls d, Pers G0 H0 G' H' → Rel T K B G' s' σ' H' → ExR T K n fs cls d G' H' → W cls d σ' H'
  | .bad => False
abbrev tS (f : S → Fl) : TS := fun D σ H => ∃ G s, Rel T K B G s σ H ∧ FAt T K B W (f s) G H D
end
section
variable {T : Tab} {K : PySem.W.Frag} {B : Bs} {W : WX}
theorem FAt.mono {f : Fl} {G0 G : Gh} {H0 H : Hp} {D : Ends} (h : FAt T K B W f G0 H0 D) (p : Pers G0 H0 G H) : FAt T K B W f G H D := by
  cases f with
  | nx s => exact fun G' σ' H' q => h G' σ' H' (p.trans q)
  | bk s => exact fun G' σ' H' q => h G' σ' H' (p.trans q)
  | ct s => exact fun G' σ' H' q => h G' σ' H' (p.trans q)
  | rt r s => exact fun G' σ' H' v q => h G' σ' H' v (p.trans q)
  | ex n fs s => exact fun G' σ' H' cls d q => h G' σ' H' cls d (p.trans q)
  | bad => exact h
theorem f_bind {α β : Type} {P : PP α β} {o : Oc α} {f : α → S → Fl} {G0 G : Gh} {s : S} {σ : St} {H0 H : Hp} {D : Ends} {Q : β → Hp → Prop}
    (h : FAt T K B W (o.fl f) G0 H0 D) (p0 : Pers G0 H0 G H) (k : ∀ a s1 G1 H1 b1, Stp σ G s H G1 s1 H1 → Pers G0 H0 G1 H1 → Rel T K B G1 s1 σ H1 → P s H G1 s1 σ H1 b1 a → FAt T K B W (f a s1) G1 H1 D → Q b1 H1) : At T K B W P o G s σ H Q := by
  cases o with
  | ok a s1 => exact fun G1 H1 b1 st R1 p1 => k a s1 G1 H1 b1 st (p0.trans st.p) R1 p1 (FAt.mono h (p0.trans st.p))
  | ex n fs s1 => exact fun G' H' cls d p R x => h G' σ H' cls d (p0.trans p) R x
  | bad => exact h
theorem RR.rx {s0 s : S} {H0 H : Hp} {G : Gh} {σ : St} {v : V} {r : R} (h : RR T K B s0 H0 G s σ H v r) : RX T K B G H v r := by
  cases h with
  | va q => exact .va q
  | fl e q f => exact .fl e q f.nF f.nio f.bn
  | fdK e q f => exact .fdK e q f.nF f.nio f.bn
  | fdT e q f => exact .fdT e q f.nF f.nio f.bn
  | own _ => exact .own

/-! a name stored -/
theorem own_stored {s : S} {σ : St} {i j : Nat} {x : Slot} {v : V} {a : Addr} (hij : i ≠ j) (h : Own (setE s i x) (σ.set i (some v)) j a) : Own s σ j a := by
  obtain ⟨⟨y, e, ho⟩, e2⟩ := h
  rw [setE_get, if_neg hij] at e
  rw [List.getElem?_set_ne hij] at e2
  exact ⟨⟨y, e, ho⟩, e2⟩
theorem own_at_i {s : S} {σ : St} {i : Nat} {x : Slot} {v : V} {a : Addr} (h : Own (setE s i x) (σ.set i (some v)) i a) : isOwn x = true ∧ v = .ref a ∧ i < σ.length := by
  obtain ⟨⟨y, e, ho⟩, e2⟩ := h
  rw [setE_get, if_pos rfl] at e
  split at e
  · injection e with e; subst e
    rw [List.getElem?_set] at e2
    rw [if_pos rfl] at e2
    split at e2
    · rename_i hl; injection e2 with e2; injection e2 with e2; exact ⟨ho, e2, hl⟩
    · cases e2
  · cases e
theorem Rel.stored {G : Gh} {s : S} {σ : St} {H : Hp} {i : Nat} {x : Slot} {v : V} (hR : Rel T K B G s σ H) (r : SlotR T K G H (some (some v)) x) (ho : isOwn x = true → ∀ a, v = .ref a → ¬ G.F a ∧ a ∉ G.io ∧ B.H a = none ∧ ¬ OwnA s σ a) :
    Rel T K B G (setE s i x) (σ.set i (some v)) H := by
  refine ⟨by show (s.env.set i x).length = _; rw [List.length_set, List.length_set]; exact hR.len, fun j y e => ?_, fun a h => ?_, fun j l a h1 h2 => ?_, hR.c, hR.b⟩
  · rw [setE_get] at e
    split at e
    · rename_i hij
      split at e
      · rename_i hl
        injection e with e; subst e; subst hij
        rw [List.getElem?_set_self (by rw [← hR.len]; exact hl)]
        exact r
      · cases e
    · rename_i hij
      rw [List.getElem?_set_ne hij]
      exact hR.sl j y e
  · obtain ⟨j, h⟩ := h
    by_cases hij : i = j
    · subst hij
      obtain ⟨h1, h2, _⟩ := own_at_i h
      have z := ho h1 a h2
      exact ⟨z.1, z.2.1, z.2.2.1⟩
    · exact hR.own1 a ⟨j, own_stored hij h⟩
  · by_cases hj : i = j <;> by_cases hl : i = l
    · exact hj.symm.trans hl
    · subst hj
      obtain ⟨g1, g2, _⟩ := own_at_i h1
      exact absurd ⟨l, own_stored hl h2⟩ (ho g1 a g2).2.2.2
    · subst hl
      obtain ⟨g1, g2, _⟩ := own_at_i h2
      exact absurd ⟨j, own_stored hj h1⟩ (ho g1 a g2).2.2.2
    · exact hR.own2 j l a (own_stored hj h1) (own_stored hl h2)
theorem RR.slot {G : Gh} {s0 s : S} {σ : St} {H0 H : Hp} {i : Nat} {v : V} {r : R} {x : Slot} (hR : Rel T K B G s σ H) (h : RR T K B s0 H0 G s σ H v r)
    (e : (match r with | .fl l => some (Slot.ol l) | .fd t l => some (Slot.od t l) | .va d => some (Slot.va d) | .own _ => none) = some x) : Rel T K B G (setE s i x) (σ.set i (some v)) H := by
  cases h with
  | va q => injection e with e; subst e; exact hR.stored (.va q) fun z => by cases z
  | fl e1 q f => injection e with e; subst e; exact hR.stored (.ol e1 q) fun _ a z => by cases z; exact ⟨f.nF, f.nio, f.bn, f.now⟩
  | fdK e1 q f => injection e with e; subst e; exact hR.stored (.odK e1 q) fun _ a z => by cases z; exact ⟨f.nF, f.nio, f.bn, f.now⟩
  | fdT e1 q f => injection e with e; subst e; exact hR.stored (.odT e1 q) fun _ a z => by cases z; exact ⟨f.nF, f.nio, f.bn, f.now⟩
  | own _ => cases e
/-- an own list grows -/
theorem Rel.grown {G : Gh} {s : S} {σ : St} {H : Hp} {i : Nat} {l : List D} {d : D} {y : V} (hR : Rel T K B G s σ H) (e : s.env[i]? = some (.ol l)) (r : RV T K G H y d) :
    ∃ a vs, σ[i]? = some (some (.ref a)) ∧ H a = some (.lst vs) ∧ vs.length = l.length ∧ Rel T K B G (setE s i (.ol (l ++ [d]))) σ (upd H a (.lst (vs ++ [y]))) ∧ Pers G H G (upd H a (.lst (vs ++ [y]))) := by
  obtain ⟨a, e1, ow⟩ := own_at hR e rfl
  have z := hR.sl _ _ e
  rw [e1] at z
  cases z with
  | @ol _ vs _ hv rv =>
    have o1 := hR.own1 a ⟨i, ow⟩
    have P : Pers G H G (upd H a (.lst (vs ++ [y]))) := ⟨fun _ _ h => h, fun _ h => h, fun b h => upd_ne (fun z => o1.1 (z ▸ h)), fun b xs h => by rw [upd_ne (fun z => by rw [z, hv] at h; cases h)]; exact h, fun b u w h => by rw [upd_ne (fun z => by rw [z, hv] at h; cases h)]; exact h, fun b u h => by rw [upd_ne (fun z => by rw [z, hv] at h; cases h)]; exact h⟩
    have sub : ∀ {j : Nat} {b : Addr}, Own (setE s i (.ol (l ++ [d]))) σ j b → Own s σ j b := fun {j b} h => by
      obtain ⟨⟨x, e3, ho⟩, e4⟩ := h
      rw [setE_get] at e3
      split at e3
      · rename_i hij; subst hij; exact ⟨⟨_, e, rfl⟩, e4⟩
      · exact ⟨⟨x, e3, ho⟩, e4⟩
    refine ⟨a, vs, e1, hv, rv.length, ⟨by show (s.env.set i _).length = _; rw [List.length_set]; exact hR.len, fun j x e3 => ?_, fun b ⟨j, h⟩ => hR.own1 b ⟨j, sub h⟩, fun j m b h1 h2 => hR.own2 j m b (sub h1) (sub h2), ⟨hR.c.len, fun j o b e3 e4 => (hR.c.bx j o b e3 e4).mono P fun u q => ?_, hR.c.nd, hR.c.ioF, fun b h z => ?_⟩, ⟨hR.b.p.trans P, fun b u e3 n => ?_, fun b e3 z => ?_, hR.b.nio, hR.b.nF⟩⟩, P⟩
    · rw [setE_get] at e3
      split at e3
      · rename_i hij; subst hij
        split at e3
        · injection e3 with e3; subst e3
          rw [e1]
          exact .ol upd_same ((rv.mono P).append (.cons (r.mono P) .nil))
        · cases e3
      · rename_i hij
        refine (hR.sl j x e3).mono P fun b u e4 ho e5 => ?_
        rw [upd_ne]; exact e5
        rintro rfl
        exact hij (hR.own2 i j b ow ⟨⟨x, e3, ho⟩, e4⟩)
    · rw [upd_ne]; exact q
      rintro rfl
      exact o1.2.1 (List.mem_of_getElem? e4)
    · by_cases hb : b = a
      · subst hb; exact o1.1 h
      · rw [upd_ne hb] at z; exact hR.c.Fd b h z
    · rw [upd_ne]; exact hR.b.keep b u e3 n
      rintro rfl
      rw [o1.2.2] at e3; cases e3
    · by_cases hb : b = a
      · subst hb; exact e3 o1.2.2
      · rw [upd_ne hb] at z; exact hR.b.dom b e3 z
/-- an own list is written anew -/
theorem Rel.anew {G : Gh} {s : S} {σ : St} {H : Hp} {i : Nat} {l l' : List D} {g : List V → List V} (hR : Rel T K B G s σ H) (e : s.env[i]? = some (.ol l)) (r : ∀ vs, RVs T K G H vs l → RVs T K G H (g vs) l') :
    ∃ a vs, σ[i]? = some (some (.ref a)) ∧ H a = some (.lst vs) ∧ vs.length = l.length ∧ Rel T K B G (setE s i (.ol l')) σ (upd H a (.lst (g vs))) ∧ Pers G H G (upd H a (.lst (g vs))) := by
  obtain ⟨a, e1, ow⟩ := own_at hR e rfl
  have z := hR.sl _ _ e
  rw [e1] at z
  cases z with
  | @ol _ vs _ hv rv =>
    have o1 := hR.own1 a ⟨i, ow⟩
    have P : Pers G H G (upd H a (.lst (g vs))) := ⟨fun _ _ h => h, fun _ h => h, fun b h => upd_ne (fun z => o1.1 (z ▸ h)), fun b xs h => by rw [upd_ne (fun z => by rw [z, hv] at h; cases h)]; exact h, fun b u w h => by rw [upd_ne (fun z => by rw [z, hv] at h; cases h)]; exact h, fun b u h => by rw [upd_ne (fun z => by rw [z, hv] at h; cases h)]; exact h⟩
    have sub : ∀ {j : Nat} {b : Addr}, Own (setE s i (.ol l')) σ j b → Own s σ j b := fun {j b} h => by
      obtain ⟨⟨x, e3, ho⟩, e4⟩ := h
      rw [setE_get] at e3
      split at e3
      · rename_i hij; subst hij; exact ⟨⟨_, e, rfl⟩, e4⟩
      · exact ⟨⟨x, e3, ho⟩, e4⟩
    refine ⟨a, vs, e1, hv, rv.length, ⟨by show (s.env.set i _).length = _; rw [List.length_set]; exact hR.len, fun j x e3 => ?_, fun b ⟨j, h⟩ => hR.own1 b ⟨j, sub h⟩, fun j m b h1 h2 => hR.own2 j m b (sub h1) (sub h2), ⟨hR.c.len, fun j o b e3 e4 => (hR.c.bx j o b e3 e4).mono P fun u q => ?_, hR.c.nd, hR.c.ioF, fun b h z => ?_⟩, ⟨hR.b.p.trans P, fun b u e3 n => ?_, fun b e3 z => ?_, hR.b.nio, hR.b.nF⟩⟩, P⟩
    · rw [setE_get] at e3
      split at e3
      · rename_i hij; subst hij
        split at e3
        · injection e3 with e3; subst e3
          rw [e1]
          exact .ol upd_same ((r vs rv).mono P)
        · cases e3
      · rename_i hij
        refine (hR.sl j x e3).mono P fun b u e4 ho e5 => ?_
        rw [upd_ne]; exact e5
        rintro rfl
        exact hij (hR.own2 i j b ow ⟨⟨x, e3, ho⟩, e4⟩)
    · rw [upd_ne]; exact q
      rintro rfl
      exact o1.2.1 (List.mem_of_getElem? e4)
    · by_cases hb : b = a
      · subst hb; exact o1.1 h
      · rw [upd_ne hb] at z; exact hR.c.Fd b h z
    · rw [upd_ne]; exact hR.b.keep b u e3 n
      rintro rfl
      rw [o1.2.2] at e3; cases e3
    · by_cases hb : b = a
      · subst hb; exact e3 o1.2.2
      · rw [upd_ne hb] at z; exact hR.b.dom b e3 z
end
section
variable {T : Tab} {B : Bs} {W : WX} {X : Cx}
theorem sS_set {i : Nat} {x : Str} {px p : Pos} {e : Expr} {c : S → Oc R} (hN : X.N.Nodup) (hi : X.N[i]? = some x) (hx : Loc X.env.scope x) (he : PE X e (tE T X.K B W c)) (hs : swapsWith e (some (.Name x px)) p.line X.env = pure false) (hf : X.fn x = true ∨ X.env.scope.names.lookup x = some .local) :
    PS X (.Assign [.Name x px] e p) (tS T X.K B W fun s => (c s).fl fun r s1 => match keepR r with
    | some d => .nx (setE s1 i (.va d))
    | none => .bad) := ps_imp (ps_set hN hi hx he hs hf) fun D σ H ⟨G, s, hR, q⟩ => by
  refine ⟨G, s, hR, f_bind (P := PR T X.K B) q (.refl _ _) fun r s1 G1 H1 v st p1 R1 r1 q1 => ?_⟩
  split at q1
  · rename_i d hk
    obtain ⟨G2, st2, R2, rv, P2⟩ := keep1p R1 st r1 hk
    exact q1 _ _ _ P2 (R2.stored (.va rv) fun z => by cases z)
  · exact q1.elim
theorem sS_seto {i : Nat} {x : Str} {px p : Pos} {e : Expr} {c : S → Oc R} (hN : X.N.Nodup) (hi : X.N[i]? = some x) (hx : Loc X.env.scope x) (he : PE X e (tE T X.K B W c)) (hs : swapsWith e (some (.Name x px)) p.line X.env = pure false) (hf : X.fn x = true ∨ X.env.scope.names.lookup x = some .local) :
    PS X (.Assign [.Name x px] e p) (tS T X.K B W fun s => (c s).fl fun r s1 => match r with
    | .fl l => .nx (setE s1 i (.ol l))
    | .fd t l => .nx (setE s1 i (.od t l))
    | .va d => .nx (setE s1 i (.va d))
    | .own _ => .bad) := ps_imp (ps_set hN hi hx he hs hf) fun D σ H ⟨G, s, hR, q⟩ => by
  refine ⟨G, s, hR, f_bind (P := PR T X.K B) q (.refl _ _) fun r s1 G1 H1 v st p1 R1 r1 q1 => ?_⟩
  cases r with
  | fl l => exact q1 _ _ _ (.refl _ _) (RR.slot R1 r1 rfl)
  | fd t l => exact q1 _ _ _ (.refl _ _) (RR.slot R1 r1 rfl)
  | va d => exact q1 _ _ _ (.refl _ _) (RR.slot R1 r1 rfl)
  | own i => exact q1.elim
/-! targets -/
def tgs : List (Nat × Str × Pos) → TGs
  | [] => gNil
  | (i, _, _) :: r => gCons (gName i) (tgs r)
/-- the names of a target are slots -/
def NmOk (X : Cx) (i : Nat) (x : Str) : Prop := X.N[i]? = some x ∧ Loc X.env.scope x ∧ (X.fn x = true ∨ X.env.scope.names.lookup x = some .local)
def NmsOk (X : Cx) : List (Nat × Str × Pos) → Prop
  | [] => True
  | (i, x, _) :: r => NmOk X i x ∧ NmsOk X r
theorem pgs_names (hN : X.N.Nodup) : ∀ {l : List (Nat × Str × Pos)}, NmsOk X l → PGs X (upNs l) (tgs l)
  | [], _ => pgs_nil
  | (i, x, p) :: r, h => pgs_cons (pg_name hN h.1.1 h.1.2.1 h.1.2.2) (pgs_names hN h.2)
theorem each_len {env : Env} : ∀ l : List (Nat × Str × Pos), (assignEach (upNs l) env).length = l.length
  | [] => rfl
  | (i, x, p) :: r => by
    show (assignEach (upNs r) env).length + 1 = _
    rw [each_len r]; rfl
theorem each_star {env : Env} : ∀ l : List (Nat × Str × Pos), (assignEach (upNs l) env).findIdx? (·.1) = none
  | [] => rfl
  | (i, x, p) :: r => by
    have ih := each_star (env := env) r
    show List.findIdx? (·.1) ((false, _) :: assignEach (upNs r) env) = none
    rw [List.findIdx?_cons, ih]; rfl
theorem bindN_len : ∀ {l : List (Nat × Str × Pos)} {ds : List D} {s s2 : S}, bindN l ds s = some s2 → l.length = ds.length
  | [], [], _, _, _ => rfl
  | [], _ :: _, _, _, e => by cases e
  | _ :: _, [], _, _, e => by cases e
  | (i, x, p) :: r, d :: ds, s, s2, e => by
    have e : bindN r ds (setE s i (.va d)) = some s2 := e
    rw [List.length_cons, List.length_cons, bindN_len e]
theorem tgs_ok {K : PySem.W.Frag} {G : Gh} {H : Hp} {Q : St → Hp → Prop} : ∀ {l : List (Nat × Str × Pos)} {ds : List D} {vs : List V} {s s2 : S} {σ : St}, bindN l ds s = some s2 → RVs T K G H vs ds → Rel T K B G s σ H → (∀ σ', Rel T K B G s2 σ' H → Q σ' H) → tgs l vs σ H Q
  | [], [], _, _, _, _, e, .nil, hR, q => by injection e with e; subst e; exact ⟨rfl, q _ hR⟩
  | [], _ :: _, _, _, _, _, e, _, _, _ => by cases e
  | _ :: _, [], _, _, _, _, e, _, _, _ => by cases e
  | (i, x, p) :: r, d :: ds, _, s, s2, σ, e, .cons rv t, hR, q => by
    have e : bindN r ds (setE s i (.va d)) = some s2 := e
    exact ⟨_, _, rfl, tgs_ok e t (hR.stored (.va rv) fun z => by cases z) q⟩
theorem pg_or {tg : Expr} {t u : TG} (a : PG X tg t) (b : PG X tg u) : PG X tg fun v σ H Q => t v σ H Q ∨ u v σ H Q :=
  ⟨fun pins s σ H v w Q I r h => h.elim (fun h => a.run pins s σ H v w Q I r h) fun h => b.run pins s σ H v w Q I r h⟩
/-- a tuple's or a list's items, by what is seen -/
theorem sS_unp {l : List (Nat × Str × Pos)} {k : Nat} {pt p : Pos} {e : Expr} {c : S → Oc R} (hc : X.calm = true) (hN : X.N.Nodup) (hl : NmsOk X l) (he : PE X e (tE T X.K B W c)) (hs : swapsWithSole [.Tuple (upNs l) k pt] e p.line X.env = pure false) (hw : swappedStores [.Tuple (upNs l) k pt] e X.env = pure none) :
    PS X (.Assign [.Tuple (upNs l) k pt] e p) (tS T X.K B W fun s => (c s).fl fun r s1 => match unpItems s1 r with
    | some ds => match bindN l ds s1 with
      | some s2 => .nx s2
      | none => .bad
    | none => .bad) := by
  have ht : PG X (.Tuple (upNs l) k pt) (gTup X.K l.length (tgs l)) := pg_tup hc (pgs_names hN hl) (each_len l) (each_star l)
  have hu : PG X (.Tuple (upNs l) k pt) (gUnl X.K l.length (tgs l)) := pg_unl hc (pgs_names hN hl) (each_len l) (each_star l)
  refine ps_imp (ps_asg he (pg_or ht hu) hs hw) fun D σ H ⟨G, s, hR, q⟩ => ?_
  refine ⟨G, s, hR, f_bind (P := PR T X.K B) q (.refl _ _) fun r s1 G1 H1 v st p1 R1 r1 q1 => ?_⟩
  split at q1
  · rename_i ds hd
    split at q1
    · rename_i s2 hb
      unfold unpItems at hd
      split at hd
      · cases hd
      · cases hd
      · split at hd
        · rename_i l' hv
          injection hd with hd; subst hd
          cases view_ok R1 r1 hv with
          | ls a b => exact .inr ⟨_, _, rfl, .inl a, by rw [b.length, bindN_len hb], tgs_ok hb b R1 fun σ' R2 => q1 _ _ _ (.refl _ _) R2⟩
        · rename_i l' hv
          injection hd with hd; subst hd
          cases view_ok R1 r1 hv with
          | «at» a => cases a with
            | tup a b => exact .inl ⟨_, _, rfl, a, by rw [b.length, bindN_len hb], tgs_ok hb b R1 fun σ' R2 => q1 _ _ _ (.refl _ _) R2⟩
        · cases hd
    · exact q1.elim
  · exact q1.elim
theorem sS_expr {e : Expr} {c : S → Oc R} {p : Pos} (he : PE X e (tE T X.K B W c)) (hs : swapsWith e none p.line X.env = pure false) : PS X (.Expr e p) (tS T X.K B W fun s => (c s).fl fun _ s1 => .nx s1) := ps_imp (ps_expr he hs) fun D σ H ⟨G, s, hR, q⟩ =>
  ⟨G, s, hR, f_bind (P := PR T X.K B) q (.refl _ _) fun r s1 G1 H1 v st p1 R1 r1 q1 => q1 _ _ _ (.refl _ _) R1⟩
theorem sS_ret {e : Expr} {c : S → Oc R} {p : Pos} (he : PE X e (tE T X.K B W c)) : PS X (.Return (some e) p) (tS T X.K B W fun s => (c s).fl fun r s1 => .rt r s1) := ps_imp (ps_ret he) fun D σ H ⟨G, s, hR, q⟩ =>
  ⟨G, s, hR, f_bind (P := PR T X.K B) q (.refl _ _) fun r s1 G1 H1 v st p1 R1 r1 q1 => q1 _ _ _ v (.refl _ _) R1 r1.rx⟩
theorem sS_pass {p : Pos} : PS X (.Pass p) (tS T X.K B W fun s => .nx s) := ps_imp ps_pass fun D σ H ⟨G, s, hR, q⟩ => q _ _ _ (.refl _ _) hR
theorem sB_nil : PSs X [] (tS T X.K B W fun s => .nx s) := pss_imp pss_nil fun D σ H ⟨G, s, hR, q⟩ => q _ _ _ (.refl _ _) hR
theorem sB_cons {st : Stmt} {rest : List Stmt} {f g : S → Fl} (h1 : PS X st (tS T X.K B W f)) (h2 : PSs X rest (tS T X.K B W g)) : PSs X (st :: rest) (tS T X.K B W fun s => match f s with
    | .nx s1 => g s1
    | f => f) := pss_imp (pss_cons h1 h2) fun D σ H ⟨G, s, hR, q⟩ => by
  refine ⟨G, s, hR, ?_⟩
  revert q
  dsimp only
  cases f s with
  | nx s1 => exact fun q G' σ' H' p R' => ⟨G', s1, R', q.mono p⟩
  | rt r s1 => exact fun q => q
  | bk s1 => exact fun q => q
  | ct s1 => exact fun q => q
  | ex n fs s1 => exact fun q => q
  | bad => exact fun q => q
theorem sS_if {e : Expr} {a b : List Stmt} {c : S → Oc Bool} {f g : S → Fl} {p : Pos} (he : PT X e (tT T X.K B W c)) (h1 : PSs X a (tS T X.K B W f)) (h2 : PSs X b (tS T X.K B W g)) : PS X (.If e a b p) (tS T X.K B W fun s => (c s).fl fun t s1 => if t = true then f s1 else g s1) := ps_imp (ps_if he h1 h2) fun D σ H ⟨G, s, hR, q⟩ => by
  refine ⟨G, s, hR, f_bind (P := PB) q (.refl _ _) fun t s1 G1 H1 b st p1 R1 r1 q1 => ?_⟩
  cases (show b = t from r1)
  cases t with
  | true => exact ⟨G1, s1, R1, q1⟩
  | false => exact ⟨G1, s1, R1, q1⟩
theorem RVs.rev {K : PySem.W.Frag} {G : Gh} {H : Hp} : ∀ {vs : List V} {l : List D}, RVs T K G H vs l → RVs T K G H vs.reverse l.reverse
  | _, _, .nil => .nil
  | _, _, .cons r t => by
    rw [List.reverse_cons, List.reverse_cons]
    exact (RVs.rev t).append (.cons r .nil)
/-- x.reverse(), x an own list -/
theorem sS_rev {i : Nat} {x : Str} {px pa pc p : Pos} (hx : PE X (.Name x px) (tVar i)) (hline : (pa.endLine == pc.line) = true) :
    PS X (.Expr (.Call (.Attribute (.Name x px) "reverse" pa) [] [] pc) p) (tS T X.K B W fun s => match s.env[i]? with
    | some (.ol l) => .nx (setE s i (.ol l.reverse))
    | _ => .bad) := by
  refine ps_imp (ps_expr (pe_bm0 PySem.F.plainAttrs_list PySem.F.slot_list_reverse PySem.F.type_list_reverse mt_reverse hx rfl hline)) fun De σ H ⟨G, s, hR, q⟩ => ?_
  dsimp only at q
  split at q
  · rename_i l e0
    obtain ⟨a, vs, g1, g2, g3, g4, g5⟩ := hR.anew (g := List.reverse) (l' := l.reverse) e0 fun vs r => r.rev
    exact ⟨_, g1, .inl ⟨rfl, _, .inl (.inl g2)⟩, a, vs, rfl, rfl, g2, q _ _ _ g5 g4⟩
  · exact q.elim
theorem sS_app {i : Nat} {x : Str} {px pa pc p : Pos} {e : Expr} {c : S → Oc R} (hx : PE X (.Name x px) (tVar i)) (he : PE X e (tE T X.K B W c)) (hst : starEach [e] X.env = (false, eval e X.env) :: starEach [] X.env) (hline : (pa.endLine == pc.line) = true) :
    PS X (.Expr (.Call (.Attribute (.Name x px) "append" pa) [e] [] pc) p) (tS T X.K B W fun s => match s.env[i]? with
    | some (.ol _) => (c s).fl fun r s1 => match keepR r, s1.env[i]? with
      | some d, some (.ol l) => if l.length < sizeLine then .nx (setE s1 i (.ol (l ++ [d]))) else .bad
      | _, _ => .bad
    | _ => .bad) := by
  have hpl : (backTo pc (starEach [] X.env)).any (·.1) = false := rfl
  have hfew : ((backTo pc (starEach [e] X.env)).all (fun x => !x.1) && (backToKw pc (keywordEach [] X.env)).all (fun x => x.1.isSome)
      && decide (([e] : List Expr).length + ([] : List Keyword).length + (if ([] : List Keyword).isEmpty then 0 else 1) < 30)) = true := by rw [hst]; rfl
  refine ps_imp (ps_expr (pe_bm PySem.F.plainAttrs_list PySem.F.slot_list_append PySem.F.type_list_append mt_append hx (pa_cons he pa_nil hst) rfl hfew hline hst hpl)) fun D σ H ⟨G, s, hR, q⟩ => ?_
  dsimp only at q
  split at q
  · rename_i l0 e0
    obtain ⟨a, e1, ow⟩ := own_at hR e0 rfl
    have z := hR.sl _ _ e0
    rw [e1] at z
    cases z with
    | ol hv rv =>
      refine ⟨_, e1, .inl ⟨rfl, _, .inl (.inl hv)⟩, G, s, hR, f_bind (P := PR T X.K B) q (.refl _ _) fun r s1 G1 H1 v st p1 R1 r1 q1 => ?_⟩
      split at q1
      · rename_i d l hk e2
        split at q1
        · rename_i hz
          obtain ⟨G2, st2, R2, rv, P2⟩ := keep1p R1 st r1 hk
          obtain ⟨a', vs, g1, g2, g3, g4, g5⟩ := R2.grown e2 rv
          rw [e1] at g1
          cases g1
          exact ⟨a, vs, v, rfl, rfl, g2, by rw [g3]; exact hz, q1 _ _ _ (P2.trans g5) g4⟩
        · exact q1.elim
      · exact q1.elim
  · exact q.elim
/-! loops -/
theorem sS_while {e : Expr} {body : List Stmt} {c : S → Oc Bool} {f : S → Fl} {p : Pos} {n : Nat} (hp : PassesOwn (model X.prog X.w) X.A X.env X.xe) (he : PT X e (tT T X.K B W c)) (hb : PSs X body (tS T X.K B W f)) :
    PS X (.While e body [] p) (tS T X.K B W fun s => whTurns c f n s) := ps_imp (ps_while hp he hb) fun D σ H ⟨G, s, hR, q⟩ => by
  refine ⟨fun m σ' H' => ∃ G' s', Rel T X.K B G' s' σ' H' ∧ Pers G H G' H' ∧ FAt T X.K B W (whTurns c f m s') G' H' D, ⟨n, G, s, hR, .refl _ _, q⟩, ?_⟩
  rintro m σ1 H1 ⟨G1, s1, R1, P1, q1⟩
  cases m with
  | zero => exact q1.elim
  | succ m =>
    refine ⟨G1, s1, R1, ?_⟩
    unfold whTurns at q1
    revert q1
    cases c s1 with
    | bad => exact fun q1 => q1
    | ex n fs s2 => exact fun q1 G' H' cls d P R x => q1 G' σ1 H' cls d P R x
    | ok b s2 =>
      cases b with
      | false =>
        intro q1 G2 H2 b st R2 e
        cases (show b = false from e)
        exact q1 G2 σ1 H2 st.p R2
      | true =>
        intro q1 G2 H2 b st R2 e
        cases (show b = true from e)
        rw [if_pos rfl]
        refine ⟨fun σ' H' => ∃ G' s', Rel T X.K B G' s' σ' H' ∧ Pers G H G' H' ∧ FAt T X.K B W (whTurns c f m s') G' H' D, fun σ' H' h => ⟨m, Nat.lt_succ_self m, h⟩, G2, s2, R2, ?_⟩
        have q1 := q1.mono st.p
        revert q1
        dsimp only
        cases f s2 with
        | nx s3 => exact fun q1 G' σ' H' P R => ⟨G', s3, R, P1.trans (st.p.trans P), q1.mono P⟩
        | ct s3 => exact fun q1 G' σ' H' P R => ⟨G', s3, R, P1.trans (st.p.trans P), q1.mono P⟩
        | bk s3 => exact fun q1 => q1
        | rt r s3 => exact fun q1 => q1
        | ex n fs s3 => exact fun q1 => q1
        | bad => exact fun q1 => q1
/-- what an iterator yields -/
structure WalkOf (T : Tab) (K : PySem.W.Frag) (J : It) (l : List D) (G : Gh) (H : Hp) : Prop where
  go : ∀ i, i < l.length → ∀ G' H', Pers G H G' H' → J.go i H'
  stop : ∀ G' H', Pers G H G' H' → J.stop l.length H'
  yld : ∀ i d, l[i]? = some d → ∀ G' H' x H'', Pers G H G' H' → J.yld i H' x H'' → NewR T K G' H' H'' x (.va d)
def IAt (T : Tab) (K : PySem.W.Frag) (B : Bs) (W : WX) (o : Oc (List D)) (G0 : Gh) (s0 : S) (σ : St) (H0 : Hp) (R : It → Hp → Prop) : Prop := match o with
  | .ok l s' => ∀ G' H' J, Stp σ G0 s0 H0 G' s' H' → Rel T K B G' s' σ H' → WalkOf T K J l G' H' → R J H'
  | .ex n fs s' => ∀ G' H' cls d, Pers G0 H0 G' H' → Rel T K B G' s' σ H' → ExR T K n fs cls d G' H' → W cls d σ H'
  | .bad => False
def tI (T : Tab) (K : PySem.W.Frag) (B : Bs) (W : WX) (c : S → Oc (List D)) : TI := fun σ H R => ∃ G s, Rel T K B G s σ H ∧ IAt T K B W (c s) G s σ H R
def tTg (T : Tab) (K : PySem.W.Frag) (tg : Tg) : TG := match tg with
  | .nm i _ _ => gName i
  | .tp l _ _ => fun v σ H Q => gTup K l.length (tgs l) v σ H Q
def TgOk (X : Cx) : Tg → Prop
  | .nm i x _ => NmOk X i x
  | .tp l _ _ => NmsOk X l
theorem pg_tg (hc : X.calm = true) (hN : X.N.Nodup) {tg : Tg} (h : TgOk X tg) : PG X tg.up (tTg T X.K tg) := by
  cases tg with
  | nm i x p => exact pg_name hN h.1 h.2.1 h.2.2
  | tp l k p => exact pg_tup hc (pgs_names hN h) (each_len l) (each_star l)
theorem tg_ok {K : PySem.W.Frag} {tg : Tg} {d : D} {v : V} {G : Gh} {s s2 : S} {σ : St} {H : Hp} {Q : St → Hp → Prop} (e : bindT tg d s = some s2) (rv : RV T K G H v d) (hR : Rel T K B G s σ H) (q : ∀ σ', Rel T K B G s2 σ' H → Q σ' H) : tTg T K tg v σ H Q := by
  cases tg with
  | nm i x p => injection e with e; subst e; exact q _ (hR.stored (.va rv) fun z => by cases z)
  | tp l k p =>
    cases d <;> first | (cases e; done) | skip
    case tup ds =>
      cases rv with
      | tup a b => exact ⟨_, _, rfl, a, by rw [b.length, bindN_len (show bindN l ds s = some s2 from e)], tgs_ok e b hR q⟩
theorem sS_for {tg : Tg} {it : Expr} {body : List Stmt} {c : S → Oc (List D)} {f : S → Fl} {p : Pos} (hp : PassesOwn (model X.prog X.w) X.A X.env X.xe) (hc : X.calm = true) (hN : X.N.Nodup) (hi : PI X tg.up it (tI T X.K B W c)) (ht : TgOk X tg) (hb : PSs X body (tS T X.K B W f)) (hs : ∀ x, foldedSetIterable it X.env x = pure x) :
    PS X (.For tg.up it body [] p) (tS T X.K B W fun s => (c s).fl fun l s1 => forTurns (fun d s => match bindT tg d s with
      | some s1 => f s1
      | none => .bad) l s1) := ps_imp (ps_for hp hc hi (pg_tg (T := T) hc hN ht) hb hs) fun D σ H ⟨G, s, hR, q⟩ => by
  refine ⟨G, s, hR, ?_⟩
  revert q
  dsimp only
  cases c s with
  | bad => exact fun q => q
  | ex n fs s1 => exact fun q G' H' cls d P R x => q G' σ H' cls d P R x
  | ok l s1 =>
    intro q G1 H1 J st R1 w
    have q : FAt T X.K B W (forTurns (fun d s => match bindT tg d s with
      | some s1 => f s1
      | none => .bad) l s1) G H D := q
    have q := q.mono st.p
    refine ⟨fun i m σ' H' => m + i = l.length ∧ ∃ G' s', Rel T X.K B G' s' σ' H' ∧ Pers G1 H1 G' H' ∧ FAt T X.K B W (forTurns (fun d s => match bindT tg d s with
      | some s1 => f s1
      | none => .bad) (l.drop i) s') G' H' D, ⟨l.length, rfl, G1, s1, R1, .refl _ _, q⟩, ?_⟩
    rintro i m σ2 H2 ⟨hm, G2, s2, R2, P2, q2⟩
    by_cases hi : i < l.length
    · right
      refine ⟨w.go i hi G2 H2 P2, fun σ' H' => ∃ G' s', Rel T X.K B G' s' σ' H' ∧ Pers G1 H1 G' H' ∧ FAt T X.K B W (forTurns (fun d s => match bindT tg d s with
        | some s1 => f s1
        | none => .bad) (l.drop (i + 1)) s') G' H' D, fun σ' H' h => ⟨m - 1, by omega, by omega, h⟩, fun x H3 hy => ?_⟩
      have n := w.yld i _ (List.getElem?_eq_getElem hi) G2 H2 x H3 P2 hy
      obtain ⟨st3, R3, r3⟩ := new_ok R2 n
      rw [List.drop_eq_getElem_cons hi] at q2
      unfold forTurns at q2
      revert q2
      cases e : bindT tg l[i] s2 with
      | none => exact fun q2 => q2.elim
      | some s3 =>
        intro q2
        dsimp only at q2
        cases r3 with
        | va rv =>
        refine tg_ok e rv R3 fun σ' R4 => ⟨G2, s3, R4, ?_⟩
        have q2 := q2.mono st3.p
        revert q2
        cases f s3 with
        | nx s4 => exact fun q2 G' σ' H' P R => ⟨G', s4, R, P2.trans (st3.p.trans P), q2.mono P⟩
        | ct s4 => exact fun q2 G' σ' H' P R => ⟨G', s4, R, P2.trans (st3.p.trans P), q2.mono P⟩
        | bk s4 => exact fun q2 => q2
        | rt r s4 => exact fun q2 => q2
        | ex n fs s4 => exact fun q2 => q2
        | bad => exact fun q2 => q2
    · left
      have e : i = l.length := by omega
      subst e
      rw [List.drop_length] at q2
      exact ⟨w.stop G2 H2 P2, q2 _ _ _ (.refl _ _) R2⟩
end
end BB

namespace BB
open PySem PySem.Spec PyProof.Rows L2
section
variable {T : Tab} {B : Bs} {W : WX} {X : Cx}
theorem pi_or {tg e : Expr} {t u : TI} (a : PI X tg e t) (b : PI X tg e u) : PI X tg e fun σ H R => t σ H R ∨ u σ H R :=
  ⟨fun pins s σ H R I h => h.elim (fun h => a.run pins s σ H R I h) fun h => b.run pins s σ H R I h⟩
theorem pi_imp {tg e : Expr} {t t' : TI} (h : PI X tg e t) (i : ∀ σ H R, t' σ H R → t σ H R) : PI X tg e t' := ⟨fun pins s σ H R I q => h.run pins s σ H R I (i σ H R q)⟩
theorem walk_list {K : PySem.W.Frag} {a : Addr} {vs : List V} {l : List D} {G : Gh} {H : Hp} (f : G.F a) (h : Rd H a (.lst vs)) (r : RVs T K G H vs l) (inj : ∀ H' ys, SqL K H' a vs → SqL K H' a ys → True) : WalkOf T K (Itl K a) l G H where
  go := fun i hi G' H' p => ⟨vs, vs[i]'(by rw [r.length]; exact hi), .inl (p.rd f h), List.getElem?_eq_getElem _⟩
  stop := fun G' H' p => ⟨vs, .inl (p.rd f h), by rw [r.length]; exact Nat.le_refl _⟩
  yld := fun i d hd G' H' x H'' p ⟨e, y⟩ => by
    subst e
    obtain ⟨v, h1, h2⟩ := (r.mono p).get hd
    have := y vs (.inl (p.rd f h))
    rw [h1] at this
    cases this
    exact .same h2
theorem walk_tup {K : PySem.W.Frag} {a : Addr} {vs : List V} {l : List D} {G : Gh} {H : Hp} (h : SqT K H a vs) (r : RVs T K G H vs l) : WalkOf T K (Itt K a) l G H where
  go := fun i hi G' H' p => ⟨vs, vs[i]'(by rw [r.length]; exact hi), p.sqT h, List.getElem?_eq_getElem _⟩
  stop := fun G' H' p => ⟨vs, p.sqT h, by rw [r.length]; exact Nat.le_refl _⟩
  yld := fun i d hd G' H' x H'' p ⟨e, y⟩ => by
    subst e
    obtain ⟨v, h1, h2⟩ := (r.mono p).get hd
    have := y vs (p.sqT h)
    rw [h1] at this
    cases this
    exact .same h2
theorem walk_str {K : PySem.W.Frag} {z : Str} {G : Gh} {H : Hp} : WalkOf T K (Its z) (z.cps.toList.map fun c => D.str ⟨#[c]⟩) G H where
  go := fun i hi G' H' p => by
    rw [List.length_map, Array.length_toList] at hi
    exact hi
  stop := fun G' H' p => by
    rw [List.length_map, Array.length_toList]
    exact Nat.le_refl z.cps.size
  yld := fun i d hd G' H' x H'' p ⟨e, c, y, hx⟩ => by
    subst e; subst hx
    rw [List.getElem?_map, Array.getElem?_toList, y] at hd
    cases hd
    exact .same (.str _)
theorem rngD_len : ∀ (n : Nat) (lo : Int), (rngD lo n).length = n
  | 0, _ => rfl
  | n + 1, lo => by unfold rngD; rw [List.length_cons, rngD_len n]
theorem rngD_get : ∀ (n : Nat) (lo : Int) (i : Nat) (d : D), (rngD lo n)[i]? = some d → d = .int (lo + i)
  | 0, _, _, _, h => by cases h
  | n + 1, lo, 0, d, h => by unfold rngD at h; cases h; simp
  | n + 1, lo, i + 1, d, h => by
    unfold rngD at h
    rw [List.getElem?_cons_succ] at h
    rw [rngD_get n _ i d h]
    congr 1
    omega
theorem walk_rng {K : PySem.W.Frag} {lo : Int} {n : Nat} {G : Gh} {H : Hp} : WalkOf T K (Itr lo n) (rngD lo n) G H where
  go := fun i hi G' H' p => by rw [rngD_len] at hi; exact hi
  stop := fun G' H' p => by rw [rngD_len]; exact Nat.le_refl _
  yld := fun i d hd G' H' x H'' p ⟨e, y⟩ => by
    subst e; subst y
    rw [rngD_get n lo i d hd]
    exact .same (.int _)
theorem enumD_len : ∀ (l : List D) (n : Nat), (enumD n l).length = l.length
  | [], _ => rfl
  | d :: ds, n => by unfold enumD; rw [List.length_cons, List.length_cons, enumD_len ds]
theorem enumD_get : ∀ (l : List D) (n i : Nat) (d : D), (enumD n l)[i]? = some d → ∃ e, l[i]? = some e ∧ d = .tup [.int ((n + i : Nat) : Int), e]
  | [], _, _, _, h => by cases h
  | x :: xs, n, 0, d, h => by unfold enumD at h; cases h; exact ⟨x, rfl, rfl⟩
  | x :: xs, n, i + 1, d, h => by
    unfold enumD at h
    rw [List.getElem?_cons_succ] at h
    obtain ⟨e, h1, h2⟩ := enumD_get xs (n + 1) i d h
    refine ⟨e, by rw [List.getElem?_cons_succ]; exact h1, ?_⟩
    rw [h2]
    congr 3
    omega
theorem walk_enum {K : PySem.W.Frag} {a : Addr} {vs : List V} {l : List D} {G : Gh} {H : Hp} (f : G.F a) (h : Rd H a (.lst vs)) (r : RVs T K G H vs l) : WalkOf T K (Ite K a) (enumD 0 l) G H where
  go := fun i hi G' H' p => ⟨vs, vs[i]'(by rw [r.length]; rw [enumD_len] at hi; exact hi), .inl (p.rd f h), List.getElem?_eq_getElem _⟩
  stop := fun G' H' p => ⟨vs, .inl (p.rd f h), by rw [r.length, enumD_len]; exact Nat.le_refl _⟩
  yld := fun i d hd G' H' x H'' p ⟨t, y, e1, e2, e3, e4⟩ => by
    obtain ⟨e, h1, h2⟩ := enumD_get l 0 i d hd
    obtain ⟨v, h3, h4⟩ := (r.mono p).get h1
    have := e4 vs (.inl (p.rd f h))
    rw [h3] at this
    cases this
    subst e1; subst e3; subst h2
    rw [Nat.zero_add]
    exact .tup e2 (.cons (.int _) (.cons h4 .nil))
theorem zipD_get : ∀ (l m : List D) (i : Nat) (d : D), (zipD l m)[i]? = some d → ∃ e f, l[i]? = some e ∧ m[i]? = some f ∧ d = .tup [e, f]
  | [], _, _, _, h => by cases h
  | _ :: _, [], _, _, h => by cases h
  | x :: xs, y :: ys, 0, d, h => by unfold zipD at h; cases h; exact ⟨x, y, rfl, rfl, rfl⟩
  | x :: xs, y :: ys, i + 1, d, h => by
    unfold zipD at h
    rw [List.getElem?_cons_succ] at h
    obtain ⟨e, f, h1, h2, h3⟩ := zipD_get xs ys i d h
    exact ⟨e, f, by rw [List.getElem?_cons_succ]; exact h1, by rw [List.getElem?_cons_succ]; exact h2, h3⟩
theorem zipD_len : ∀ (l m : List D), (zipD l m).length = min l.length m.length
  | [], _ => by simp [zipD]
  | _ :: _, [] => by simp [zipD]
  | x :: xs, y :: ys => by unfold zipD; rw [List.length_cons, zipD_len, List.length_cons, List.length_cons]; omega
theorem walk_zip {K : PySem.W.Frag} {a b : Addr} {vs ws : List V} {l m : List D} {G : Gh} {H : Hp} (f : G.F a) (h : Rd H a (.lst vs)) (r : RVs T K G H vs l) (f2 : G.F b) (h2 : Rd H b (.lst ws)) (r2 : RVs T K G H ws m) : WalkOf T K (Itz K a b) (zipD l m) G H where
  go := fun i hi G' H' p => by
    rw [zipD_len] at hi
    exact ⟨vs, ws, vs[i]'(by rw [r.length]; omega), ws[i]'(by rw [r2.length]; omega), .inl (p.rd f h), .inl (p.rd f2 h2), List.getElem?_eq_getElem _, List.getElem?_eq_getElem _⟩
  stop := fun G' H' p => ⟨vs, ws, .inl (p.rd f h), .inl (p.rd f2 h2), by rw [r.length, r2.length, zipD_len]; omega⟩
  yld := fun i d hd G' H' x H'' p ⟨t, y, z, e1, e2, e3, e4, e5⟩ => by
    obtain ⟨e, g, h5, h6, h7⟩ := zipD_get l m i d hd
    obtain ⟨v, h8, h9⟩ := (r.mono p).get h5
    obtain ⟨w, h10, h11⟩ := (r2.mono p).get h6
    have q1 := e4 vs (.inl (p.rd f h))
    have q2 := e5 ws (.inl (p.rd f2 h2))
    rw [h8] at q1; cases q1
    rw [h10] at q2; cases q2
    subst e1; subst e3; subst h7
    exact .tup e2 (.cons h9 (.cons h11 .nil))
theorem sqItems_kinds {s : S} {r : R} {l : List D} (e : sqItems s r = some l) : (keepR r = some (.lst l) ∧ view s r = some (.ls l)) ∨ r = .va (.tup l) ∨ ∃ z, r = .va (.str z) ∧ l = z.cps.toList.map fun c => .str ⟨#[c]⟩ := by
  unfold sqItems at e
  split at e
  · cases e
  · cases e
  · rename_i h1 h2
    cases r with
    | own i => exact absurd rfl (h1 i)
    | fl l' => injection e with e; subst e; exact .inl ⟨rfl, rfl⟩
    | fd t l' => cases e
    | va d =>
      cases d <;> first | (cases e; done) | skip
      case tup l' => injection e with e; subst e; exact .inr (.inl rfl)
      case lst l' => injection e with e; subst e; exact .inl ⟨rfl, rfl⟩
      case str z => injection e with e; subst e; exact .inr (.inr ⟨z, rfl, rfl⟩)
      case ref i => exact absurd rfl (h2 i)
/-- what a reading of the source makes of an iterator -/
theorem iat_of {K : PySem.W.Frag} {o : Oc R} {f : R → S → Oc (List D)} {G : Gh} {s : S} {σ : St} {H : Hp} {R' : It → Hp → Prop} {Q : VK} (h : IAt T K B W (o.bind f) G s σ H R')
    (k : ∀ r s1 G1 H1 v, Stp σ G s H G1 s1 H1 → Rel T K B G1 s1 σ H1 → RR T K B s H G1 s1 σ H1 v r → IAt T K B W (f r s1) G s σ H R' → Q v H1) : At T K B W (PR T K B) o G s σ H Q := by
  cases o with
  | ok r s1 => exact fun G1 H1 v st R1 r1 => k r s1 G1 H1 v st R1 r1 h
  | ex n fs s1 => exact h
  | bad => exact h
theorem sI_sq {tg : Expr} {e : Expr} {c : S → Oc R} (he : PE X e (tE T X.K B W c)) : PI X tg e (tI T X.K B W fun s => (c s).bind fun r s1 => opt (sqItems s1 r) s1) := by
  refine pi_imp (pi_or (pi_list he) (pi_or (pi_tup he) (pi_str he))) fun σ H R' ⟨G, s, hR, q⟩ => ?_
  dsimp only at q
  cases hc : c s with
  | bad => rw [hc] at q; exact q.elim
  | ex n fs s1 =>
    rw [hc] at q
    refine .inl ⟨G, s, hR, ?_⟩
    rw [hc]
    exact q
  | ok r s1 =>
    rw [hc] at q
    cases hs : sqItems s1 r with
    | none =>
      have q : IAt T X.K B W (opt (sqItems s1 r) s1) G s σ H R' := q
      rw [hs] at q; exact q.elim
    | some l =>
      have q : IAt T X.K B W (opt (sqItems s1 r) s1) G s σ H R' := q
      rw [hs] at q
      rcases sqItems_kinds hs with ⟨hk, _⟩ | hk | ⟨z, hk, hl⟩
      · refine .inl ⟨G, s, hR, ?_⟩
        rw [hc]
        intro G1 H1 v st R1 r1
        obtain ⟨G2, st2, R2, rv⟩ := keep1 R1 st r1 hk
        cases rv with
        | lst f h rs => exact ⟨_, rfl, ⟨_, .inl h⟩, q G2 H1 _ st2 R2 (walk_list f h rs fun _ _ _ _ => trivial)⟩
      · refine .inr (.inl ⟨G, s, hR, ?_⟩)
        rw [hc]
        intro G1 H1 v st R1 r1
        subst hk
        cases r1 with | va rv => cases rv with
          | tup a b => exact ⟨_, rfl, ⟨_, a⟩, q G1 H1 _ st R1 (walk_tup a b)⟩
      · refine .inr (.inr ⟨G, s, hR, ?_⟩)
        rw [hc]
        intro G1 H1 v st R1 r1
        subst hk; subst hl
        cases r1 with | va rv => cases rv with
          | str => exact ⟨_, rfl, q G1 H1 _ st R1 walk_str⟩
theorem sI_rng1 {tg : Expr} {a : Expr} {c : S → Oc R} {px p : Pos} (hg : Gl X "range") (hm : X.mg "range" = none) (he : PE X a (tE T X.K B W c)) (hst : starEach [a] X.env = (false, eval a X.env) :: starEach [] X.env) :
    PI X tg (.Call (.Name "range" px) [a] [] p) (tI T X.K B W fun s => (c s).bind fun r s1 => match r with
    | .va (.int j) => if small62 j = true then .ok (rngD 0 j.toNat) s1 else .bad
    | _ => .bad) := pi_imp (pi_range1 hg hm (pa_cons he pa_nil hst) hst) fun σ H R' ⟨G, s, hR, q⟩ => by
  refine ⟨G, s, hR, iat_of q fun r s1 G1 H1 v st R1 r1 q1 => ?_⟩
  split at q1
  · split at q1
    · rename_i j hj
      unfold small62 at hj
      rw [Bool.and_eq_true] at hj
      cases r1 with | va rv => cases rv with
        | int => exact ⟨_, rfl, of_decide_eq_true hj.1, of_decide_eq_true hj.2, q1 G1 H1 _ st R1 walk_rng⟩
    · exact q1.elim
  · exact q1.elim
theorem sI_enu {l : List (Nat × Str × Pos)} {k : Nat} {pt : Pos} {a : Expr} {c : S → Oc R} {px p : Pos} (hg : Gl X "enumerate") (hm : X.mg "enumerate" = none) (he : PE X a (tE T X.K B W c)) (hst : starEach [a] X.env = (false, eval a X.env) :: starEach [] X.env) :
    PI X (.Tuple (upNs l) k pt) (.Call (.Name "enumerate" px) [a] [] p) (tI T X.K B W fun s => (c s).bind fun r s1 => match sqItems s1 r, view s1 r with
    | some l, some (.ls _) => .ok (enumD 0 l) s1
    | _, _ => .bad) := pi_imp (pi_enum hg hm (pa_cons he pa_nil hst) hst) fun σ H R' ⟨G, s, hR, q⟩ => by
  refine ⟨G, s, hR, iat_of q fun r s1 G1 H1 v st R1 r1 q1 => ?_⟩
  split at q1
  · rename_i l0 l1 hs hv
    rcases sqItems_kinds hs with ⟨hk, _⟩ | hk | ⟨z, hk, hl⟩
    · obtain ⟨G2, st2, R2, rv⟩ := keep1 R1 st r1 hk
      cases rv with
      | lst f h rs => exact ⟨_, _, rfl, .inl h, q1 G2 H1 _ st2 R2 (walk_enum f h rs)⟩
    · subst hk; cases hv
    · subst hk; cases hv
  · exact q1.elim
end
end BB

namespace BB
open PySem PySem.Spec PyProof.Rows L2
theorem wipe_get {σ : St} {j : Nat} : ∀ {vs : List Nat}, j ∉ vs → (wipe σ vs)[j]? = σ[j]?
  | [], _ => rfl
  | v :: vs, h => by
    have h1 : v ≠ j := fun z => h (z ▸ List.mem_cons_self)
    show ((wipe σ vs).set v none)[j]? = _
    rw [List.getElem?_set_ne h1, wipe_get fun z => h (List.mem_cons_of_mem _ z)]
theorem wipe_set {σ : St} {i : Nat} {x : Option V} : ∀ {vs : List Nat}, i ∈ vs → wipe (σ.set i x) vs = wipe σ vs := by
  intro vs h
  apply List.ext_getElem?
  intro j
  by_cases hj : j ∈ vs
  · have key : ∀ (τ : St) (vs : List Nat), j ∈ vs → (wipe τ vs)[j]? = if j < τ.length then some none else none := by
      intro τ vs hv
      induction vs with
      | nil => cases hv
      | cons v vs ih =>
        show ((wipe τ vs).set v none)[j]? = _
        rw [List.getElem?_set]
        by_cases e : v = j
        · rw [if_pos e, wipe_length, e]
        · rw [if_neg e]
          rcases List.mem_cons.mp hv with z | z
          · exact absurd z.symm e
          · exact ih z
    rw [key _ _ hj, key _ _ hj, List.length_set]
  · have hij : i ≠ j := fun z => hj (z ▸ h)
    rw [wipe_get hj, wipe_get hj, List.getElem?_set_ne hij]
theorem wipeE_get {s : S} {j : Nat} : ∀ {vs : List Nat}, (wipeE s vs).env[j]? = if j ∈ vs then (if j < s.env.length then some .no else none) else s.env[j]?
  | [] => by simp [wipeE]
  | v :: vs => by
    have hl : (wipeE s vs).env.length = s.env.length := by
      clear wipeE_get
      induction vs with
      | nil => rfl
      | cons w ws ih => show ((wipeE s ws).env.set w .no).length = _; rw [List.length_set]; exact ih
    show (setE (wipeE s vs) v .no).env[j]? = _
    rw [setE_get, hl, wipeE_get (vs := vs)]
    by_cases e : v = j
    · subst e; simp
    · rw [if_neg e]
      by_cases h : j ∈ vs
      · rw [if_pos h, if_pos (List.mem_cons_of_mem _ h)]
      · rw [if_neg h, if_neg]
        intro z
        rcases List.mem_cons.mp z with z | z
        · exact e z.symm
        · exact h z
section
variable {T : Tab} {K : PySem.W.Frag} {B : Bs} {G : Gh} {s : S} {σ : St} {H : Hp} {vs : List Nat}
/-- the block's own names are not known -/
def Clear (s : S) (vs : List Nat) : Prop := ∀ j ∈ vs, ∀ x, s.env[j]? = some x → x = .no
theorem clear_wipe : Clear (wipeE s vs) vs := fun j hj x e => by
  rw [wipeE_get, if_pos hj] at e
  split at e
  · cases e; rfl
  · cases e
theorem Own.wipe_iff {σ' : St} (hc : Clear s vs) (hw : wipe σ' vs = wipe σ vs) {j : Nat} {a : Addr} (h : Own s σ j a) : Own s σ' j a := by
  obtain ⟨⟨x, e, ho⟩, e2⟩ := h
  have hj : j ∉ vs := fun z => by have := hc j z x e; subst this; cases ho
  refine ⟨⟨x, e, ho⟩, ?_⟩
  rw [← wipe_get hj, hw, wipe_get hj]
  exact e2
theorem Rel.wiped {σ' : St} (hR : Rel T K B G s σ H) (hc : Clear s vs) (hw : wipe σ' vs = wipe σ vs) : Rel T K B G s σ' H := by
  have hl : σ'.length = σ.length := by have := congrArg List.length hw; rw [wipe_length, wipe_length] at this; exact this
  refine ⟨hR.len.trans hl.symm, fun j x e => ?_, fun a ⟨j, h⟩ => hR.own1 a ⟨j, h.wipe_iff hc hw.symm⟩, fun i j a h1 h2 => hR.own2 i j a (h1.wipe_iff hc hw.symm) (h2.wipe_iff hc hw.symm), hR.c, hR.b⟩
  by_cases hj : j ∈ vs
  · have := hc j hj x e; subst this; exact .no _
  · have : σ'[j]? = σ[j]? := by rw [← wipe_get hj, hw, wipe_get hj]
    rw [this]
    exact hR.sl j x e
theorem wipe_wipe : wipe (wipe σ vs) vs = wipe σ vs := by
  have : ∀ ws : List Nat, (∀ w ∈ ws, w ∈ vs) → wipe (wipe σ ws) vs = wipe σ vs := by
    intro ws
    induction ws with
    | nil => intro _; rfl
    | cons w ws ih =>
      intro h
      show wipe ((wipe σ ws).set w none) vs = _
      rw [wipe_set (h w List.mem_cons_self), ih fun x hx => h x (List.mem_cons_of_mem _ hx)]
  exact this vs fun _ h => h
/-- the target's slots -/
def tgIx : Tg → List Nat
  | .nm i _ _ => [i]
  | .tp l _ _ => l.map (·.1)
theorem bindN_own : ∀ {l : List (Nat × Str × Pos)} {ds : List D} {s s2 : S}, bindN l ds s = some s2 → ∀ (j : Nat) (x : BB.Slot), s2.env[j]? = some x → isOwn x = true → s.env[j]? = some x
  | [], [], _, _, e, j, x, h, ho => by cases e; exact h
  | [], _ :: _, _, _, e, _, _, _, _ => by cases e
  | _ :: _, [], _, _, e, _, _, _, _ => by cases e
  | (i, y, p) :: r, d :: ds, s, s2, e, j, x, h, ho => by
    have e : bindN r ds (setE s i (.va d)) = some s2 := e
    have := bindN_own e j x h ho
    rw [setE_get] at this
    split at this
    · split at this
      · cases this; cases ho
      · cases this
    · exact this
theorem bindT_own {tg : Tg} {d : D} {s s2 : S} (e : bindT tg d s = some s2) {j : Nat} {x : BB.Slot} (h : s2.env[j]? = some x) (ho : isOwn x = true) : s.env[j]? = some x := by
  cases tg with
  | nm i y p =>
    cases e
    rw [setE_get] at h
    split at h
    · split at h
      · cases h; cases ho
      · cases h
    · exact h
  | tp l k p =>
    cases d <;> first | (cases e; done) | exact bindN_own e j x h ho
theorem tgs_ok2 {Q : St → Hp → Prop} : ∀ {l : List (Nat × Str × Pos)} {ds : List D} {ws : List V} {s s2 : S} {σ : St}, bindN l ds s = some s2 → RVs T K G H ws ds → Rel T K B G s σ H → (∀ i ∈ l.map (·.1), i ∈ vs) → (∀ σ', wipe σ' vs = wipe σ vs → Rel T K B G s2 σ' H → Q σ' H) → tgs l ws σ H Q
  | [], [], _, _, _, _, e, .nil, hR, _, q => by cases e; exact ⟨rfl, q _ rfl hR⟩
  | [], _ :: _, _, _, _, _, e, _, _, _, _ => by cases e
  | _ :: _, [], _, _, _, _, e, _, _, _, _ => by cases e
  | (i, x, p) :: r, d :: ds, _, s, s2, σ, e, .cons rv t, hR, hi, q => by
    have e : bindN r ds (setE s i (.va d)) = some s2 := e
    have h1 : i ∈ vs := hi i (by simp)
    exact ⟨_, _, rfl, tgs_ok2 e t (hR.stored (.va rv) fun z => by cases z) (fun j hj => hi j (by rw [List.map_cons]; exact List.mem_cons_of_mem _ hj)) fun σ' hw R => q σ' (hw.trans (wipe_set h1)) R⟩
theorem tg_ok2 {tg : Tg} {d : D} {v : V} {s2 : S} {Q : St → Hp → Prop} (e : bindT tg d s = some s2) (rv : RV T K G H v d) (hR : Rel T K B G s σ H) (hi : ∀ i ∈ tgIx tg, i ∈ vs) (q : ∀ σ', wipe σ' vs = wipe σ vs → Rel T K B G s2 σ' H → Q σ' H) : tTg T K tg v σ H Q := by
  cases tg with
  | nm i x p => cases e; exact q _ (wipe_set (hi i (by simp [tgIx]))) (hR.stored (.va rv) fun z => by cases z)
  | tp l k p =>
    cases d <;> first | (cases e; done) | skip
    case tup ds =>
      cases rv with
      | tup a b => exact ⟨_, _, rfl, a, by rw [b.length, bindN_len (show bindN l ds s = some s2 from e)], tgs_ok2 e b hR hi q⟩
/-- a turn's step, told over the frame ahead of it -/
theorem turn_stp {σ2 : St} {G3 : Gh} {s2 s3 : S} {H3 : Hp} (hc : Clear s vs) (hw : wipe σ2 vs = wipe σ vs) (hb : ∀ (j : Nat) (x : BB.Slot), s2.env[j]? = some x → isOwn x = true → s.env[j]? = some x) (st : Stp σ2 G s2 H G3 s3 H3) : Stp σ G s H G3 (wipeE s3 vs) H3 := by
  have b : ∀ a, OwnA s2 σ2 a → OwnA s σ a := fun a ⟨j, ⟨x, e, ho⟩, e2⟩ => ⟨j, Own.wipe_iff (σ := σ2) hc hw.symm ⟨⟨x, hb j x e ho, ho⟩, e2⟩⟩
  have c : ∀ a, OwnA (wipeE s3 vs) σ a → OwnA s3 σ2 a := fun a ⟨j, ⟨x, e, ho⟩, e2⟩ => by
    rw [wipeE_get] at e
    split at e
    · split at e
      · cases e; cases ho
      · cases e
    · rename_i hj
      refine ⟨j, ⟨x, e, ho⟩, ?_⟩
      rw [← wipe_get hj, hw, wipe_get hj]
      exact e2
  exact ⟨st.p, fun a u h n no => st.keep a u h n fun z => no (b a z), st.dom, fun a h n => (st.nio a h n).imp id (b a), fun a h n => (st.nF a h n).imp id (b a), fun a h => b a (st.ow a (c a h))⟩
theorem Rel.wipeE {σ : St} : ∀ {vs : List Nat} {s : S}, Rel T K B G s σ H → Rel T K B G (wipeE s vs) σ H
  | [], _, h => h
  | v :: vs, s, h => (Rel.wipeE (vs := vs) h).setSlot rfl (.no _)
theorem Stp.wipeE : ∀ {vs : List Nat} {s : S}, Stp σ G s H G (wipeE s vs) H
  | [], _ => .refl _ _ _ _
  | v :: vs, s => (Stp.wipeE (vs := vs)).trans (.setSlot rfl)
end
section
variable {T : Tab} {B : Bs} {W : WX} {X : Cx}
abbrev W0 : WX := fun _ _ _ _ => False
/-- one turn of a comprehension -/
def lcTurn (tg : Tg) (ci : S → Oc Bool) (ce : S → Oc R) (vs : List Nat) (d : D) (s : S) : Oc (Option D) := match bindT tg d s with
  | none => .bad
  | some s1 => (ci s1).bind fun t s2 => if t = true then (ce s2).bind fun r s3 => (match keepR r with
      | some y => .ok (some y) (BB.wipeE s3 vs)
      | none => .bad) else .ok none (BB.wipeE s2 vs)
theorem sE_lc {elt it : Expr} {ifs : List Expr} {tg : Tg} {scope : Scope} {own : List (Str × Nat)} {p : Pos} {c : S → Oc (List D)} {ci : S → Oc Bool} {ce : S → Oc R} (hc : X.calm = true) (hN : X.N.Nodup) (hi : PI X tg.up it (tI T X.K B W c)) (ok : BlkOk X.N X.env.scope scope own)
    (hg : ∀ (s : Shared) (H : Hp) (C : Addr) (cl : List (Str × Addr)) (fp : List Addr), TgOk (X.blk s H scope (compEnvC scope cl C X.env) fp) tg) (hx : ∀ i ∈ tgIx tg, i ∈ own.map (·.2))
    (ht : ∀ (s : Shared) (H : Hp) (C : Addr) (cl : List (Str × Addr)) (fp : List Addr), PTs (X.blk s H scope (compEnvC scope cl C X.env) fp) ifs (tT T X.K B W0 ci))
    (he : ∀ (s : Shared) (H : Hp) (C : Addr) (cl : List (Str × Addr)) (fp : List Addr), PE (X.blk s H scope (compEnvC scope cl C X.env) fp) elt (tE T X.K B W0 ce)) (hs : ∀ x, foldedSetIterable it X.env x = pure x)
    (σ : St) (H : Hp) (Q : VK) (q : (tE T X.K B W fun s => (c s).bind fun l s1 => (lcTurns (lcTurn tg ci ce (own.map (·.2))) l [] (BB.wipeE s1 (own.map (·.2)))).bind fun ys s2 => .ok (.fl ys) s2) σ H Q) :
    tLc (tI T X.K B W c) (tTg T X.K tg) (tT T X.K B W0 ci) (tE T X.K B W0 ce) (own.map (·.2)) σ H Q := by
  obtain ⟨G, s, hR, q⟩ := q
  refine ⟨G, s, hR, ?_⟩
  generalize hvs : own.map (·.2) = vs at *
  revert q
  dsimp only
  cases c s with
  | bad => exact fun q => q
  | ex n fs s1 => exact fun q => q
  | ok l s1 =>
    intro q G1 H1 J st R1 w D hD
    have q : At T X.K B W (PR T X.K B) ((lcTurns (lcTurn tg ci ce vs) l [] (BB.wipeE s1 vs)).bind fun ys s2 => .ok (.fl ys) s2) G s σ H Q := q
    have RD := hR
    -- the list laid
    have R1w : Rel T X.K B G1 (BB.wipeE s1 vs) σ H1 := R1.wipeE
    have S1w : Stp σ G s H G1 (BB.wipeE s1 vs) H1 := st.trans .wipeE
    have R2 : Rel T X.K B G1 (BB.wipeE s1 vs) σ (upd H1 D (.lst [])) := R1w.laid hD
    have S2 : Stp σ G s H G1 (BB.wipeE s1 vs) (upd H1 D (.lst [])) := S1w.trans (.laid R1w hD)
    have F2 : Fresh B s H G1 (BB.wipeE s1 vs) σ (upd H1 D (.lst [])) D := (R1w.fresh hD).back S1w
    refine ⟨fun i m H' => m + i = l.length ∧ ∃ G' s' acc av, Rel T X.K B G' s' σ H' ∧ Clear s' vs ∧ Stp σ G s H G' s' H' ∧ Fresh B s H G' s' σ H' D ∧ H' D = some (.lst av) ∧ RVs T X.K G' H' av acc ∧ Pers G1 H1 G' H' ∧
      At T X.K B W (PR T X.K B) ((lcTurns (lcTurn tg ci ce vs) (l.drop i) acc s').bind fun ys s2 => .ok (.fl ys) s2) G s σ H Q,
      ⟨l.length, rfl, G1, BB.wipeE s1 vs, [], [], R2, clear_wipe, S2, F2, upd_same, .nil, pers_upd hD R1.c, q⟩, ?_⟩
    rintro i m H' ⟨hm, G', s', acc, av, R', C', S', F', eD, rD, P', q'⟩
    by_cases hil : i < l.length
    · right
      refine ⟨w.go i hil G' H' P', fun H'' => ∃ G' s' acc av, Rel T X.K B G' s' σ H'' ∧ Clear s' vs ∧ Stp σ G s H G' s' H'' ∧ Fresh B s H G' s' σ H'' D ∧ H'' D = some (.lst av) ∧ RVs T X.K G' H'' av acc ∧ Pers G1 H1 G' H'' ∧
        At T X.K B W (PR T X.K B) ((lcTurns (lcTurn tg ci ce vs) (l.drop (i + 1)) acc s').bind fun ys s2 => .ok (.fl ys) s2) G s σ H Q, fun H'' h => ⟨m - 1, by omega, by omega, h⟩, fun x H3 hy => ?_⟩
      have n := w.yld i _ (List.getElem?_eq_getElem hil) G' H' x H3 P' hy
      obtain ⟨st3, R3, r3⟩ := new_ok R' n
      rw [List.drop_eq_getElem_cons hil] at q'
      unfold lcTurns at q'
      have F3 := F'.mono eD st3
      cases r3 with
      | va rv =>
      cases e : bindT tg l[i] s' with
      | none =>
        have : lcTurn tg ci ce vs l[i] s' = .bad := by unfold lcTurn; rw [e]
        rw [this] at q'
        exact q'.elim
      | some s4 =>
        have Rw : Rel T X.K B G' s' (wipe σ vs) H3 := R3.wiped C' wipe_wipe
        refine tg_ok2 e rv Rw hx fun σ2 hw R4 => ⟨hw.trans wipe_wipe, G', s4, R4, ?_⟩
        have hw2 : wipe σ2 vs = wipe σ vs := hw.trans wipe_wipe
        have eT : lcTurn tg ci ce vs l[i] s' = (ci s4).bind fun t s2 => if t = true then (ce s2).bind fun r s3 => (match keepR r with
            | some y => .ok (some y) (BB.wipeE s3 vs)
            | none => .bad) else .ok none (BB.wipeE s2 vs) := by unfold lcTurn; rw [e]
        rw [eT] at q'
        cases hci : ci s4 with
        | bad => rw [hci] at q'; exact q'.elim
        | ex n fs s5 => rw [hci] at q'; exact q'.elim
        | ok t s5 =>
          rw [hci] at q'
          intro G5 H5 b st5 R5 eb
          cases (show b = t from eb)
          cases t with
          | false =>
            rw [if_neg Bool.false_ne_true]
            have S5 : Stp σ G' s' H3 G5 (BB.wipeE s5 vs) H5 := turn_stp C' hw2 (fun j x => bindT_own e) st5
            have S6 := st3.trans S5
            obtain ⟨F5, e5⟩ := F'.mono eD S6
            exact ⟨G5, BB.wipeE s5 vs, acc, av, R5.wipeE.wiped clear_wipe hw2.symm, clear_wipe, S'.trans S6, F5, e5, rD.mono S6.p, P'.trans S6.p, q'⟩
          | true =>
            rw [if_pos rfl]
            refine ⟨G5, s5, R5, ?_⟩
            have q' : At T X.K B W (PR T X.K B) ((match ((ce s5).bind fun r s3 => (match keepR r with
              | some y => Oc.ok (some y) (BB.wipeE s3 vs)
              | none => .bad)) with
              | .ok none s1 => lcTurns (lcTurn tg ci ce vs) (l.drop (i + 1)) acc s1
              | .ok (some y) s1 => if acc.length < sizeLine then lcTurns (lcTurn tg ci ce vs) (l.drop (i + 1)) (acc ++ [y]) s1 else .bad
              | _ => .bad).bind fun ys s2 => .ok (.fl ys) s2) G s σ H Q := q'
            cases hce : ce s5 with
            | bad => rw [hce] at q'; exact q'.elim
            | ex n fs s6 => rw [hce] at q'; exact q'.elim
            | ok r s6 =>
              rw [hce] at q'
              intro G6 H6 y st6 R6 r6
              have q' : At T X.K B W (PR T X.K B) ((match (match keepR r with
                | some y => Oc.ok (some y) (BB.wipeE s6 vs)
                | none => .bad) with
                | .ok none s1 => lcTurns (lcTurn tg ci ce vs) (l.drop (i + 1)) acc s1
                | .ok (some y) s1 => if acc.length < sizeLine then lcTurns (lcTurn tg ci ce vs) (l.drop (i + 1)) (acc ++ [y]) s1 else .bad
                | _ => .bad).bind fun ys s2 => .ok (.fl ys) s2) G s σ H Q := q'
              cases hk : keepR r with
              | none => rw [hk] at q'; exact q'.elim
              | some dy =>
                rw [hk] at q'
                dsimp only at q'
                split at q'
                · rename_i hz
                  obtain ⟨G7, st7, R7, rv7⟩ := keep1 R6 st6 r6 hk
                  have S5 : Stp σ G' s' H3 G7 (BB.wipeE s6 vs) H6 := turn_stp C' hw2 (fun j x => bindT_own e) (st5.trans st7)
                  have S6 := st3.trans S5
                  obtain ⟨F5, e5⟩ := F'.mono eD S6
                  have RR7 : Rel T X.K B G7 (BB.wipeE s6 vs) σ H6 := R7.wipeE.wiped clear_wipe hw2.symm
                  have rD7 := rD.mono S6.p
                  have PW := pers_wr (o' := .lst (av ++ [y])) F5 e5 trivial
                  refine ⟨av, e5, by rw [rD.length]; exact hz, G7, BB.wipeE s6 vs, acc ++ [dy], av ++ [y], RR7.wr F5 e5 trivial, clear_wipe, (S'.trans S6).wr F5 e5 trivial, F5.wr, upd_same, (rD7.mono PW).append (.cons (rv7.mono PW) .nil), (P'.trans S6.p).trans PW, q'⟩
                · exact q'.elim
    · left
      have e : i = l.length := by omega
      subst e
      rw [List.drop_length] at q'
      exact ⟨w.stop G' H' P', q' G' H' _ S' R' (.fl eD rD F')⟩
end
end BB

namespace BB
open PySem PySem.Spec PyProof.Rows L2
/-! what is seen of the text -/
section
variable (PG : Prog) (nm : Nat → Str) (N : List Str)
def kd (sc : Scope) (x : Str) (k : NameKind) : Bool := decide (sc.names.lookup x = some k)
def okVar (sc : Scope) (i : Nat) (x : Str) : Bool := decide (N[i]? = some x) && (kd sc x .local || kd sc x .cell || kd sc x .free) && !(x == ("__debug__" : Str)) && !(x == ("__classdict__" : Str))
def okNm (sc : Scope) (blk : Bool) (i : Nat) (x : Str) : Bool := decide (N[i]? = some x) && (kd sc x .local || (!blk && kd sc x .cell))
def okTg (sc : Scope) (blk : Bool) : Tg → Bool
  | .nm i x _ => okNm N sc blk i x
  | .tp l _ _ => l.all fun t => okNm N sc blk t.1 t.2.1
def okGl (sc : Scope) (x : Str) : Bool := kd sc x .globalImplicit && !(x == ("__debug__" : Str)) && !(x == ("__name__" : Str))
def types : List String := ["str", "int", "bool", "tuple", "list", "dict"]
def CL.len : CL → Nat
  | .nil => 0
  | .cons _ cs => cs.len + 1
def CP.len : CP → Nat
  | .nil => 0
  | .cons _ _ cs => cs.len + 1
def isLc : C → Bool
  | .lc .. => true
  | _ => false
mutual
def okC (sc : Scope) (blk : Bool) : C → Bool
  | .var i x _ => okVar N sc i x
  | .fz i x _ => okVar N sc i x
  | .mv i x _ => okVar N sc i x
  | .cint _ _ _ => true
  | .cbl _ _ _ => true
  | .cnon _ _ => true
  | .cstr _ _ _ => true
  | .glo n x _ => okGl sc x && (match PG.cst[n]? with | some (y, _) => decide (x = y) | none => false)
  | .bty n x _ => okGl sc x && decide (n ∈ types) && decide (x = Str.ofString n)
  | .tup es _ _ => okL sc blk es
  | .lst es _ => okL sc blk es
  | .dct ps _ => okP sc blk ps && decide (0 < ps.len) && decide (ps.len ≤ 15)
  | .bin _ a b _ => okC sc blk a && okC sc blk b
  | .un o a _ => (match o with | .USub => true | _ => false) && okC sc blk a
  | .cmp _ a b _ => okC sc blk a && okC sc blk b
  | .chain _ _ a b c _ => okC sc blk a && okC sc blk b && okC sc blk c
  | .and_ a es _ => okC sc blk a && okL sc blk es && decide (0 < es.len)
  | .or_ a es _ => okC sc blk a && okL sc blk es && decide (0 < es.len)
  | .not_ a _ => okC sc blk a
  | .ife t a b _ => okC sc blk t && okC sc blk a && okC sc blk b
  | .call n x _ es _ => okGl sc x && decide (nm n = x) && (PG.fns[n]?).isSome && okL sc blk es && decide (0 < es.len)
  | .bi b _ es _ => okGl sc b.name && okL sc blk es && decide (0 < es.len)
  | .mt m o pa es p => okC sc blk o && okL sc blk es && decide (es.len < 28) && (pa.endLine == p.line) && decide (m.id ∈ ["str.count", "str.split", "str.join", "str.upper", "str.startswith", "str.endswith", "str.index"])
  | .get2 o a b pa p => okC sc blk o && okC sc blk a && okC sc blk b && (pa.endLine == p.line)
  | .ix a b _ => okC sc blk a && okC sc blk b
  | .dix a b _ => okC sc blk a && okC sc blk b
  | .din _ a b _ => okC sc blk a && okC sc blk b
  | .sl a lo hi _ _ => okC sc blk a && okO sc blk lo && okO sc blk hi
  | .isx _ _ _ _ _ _ _ _ => false
  | .rvt a _ _ _ _ _ => okC sc blk a
  | .fnv n x _ => okGl sc x && decide (nm n = x) && (PG.fns[n]?).isSome
  | .calv i x _ es _ => okVar N sc i x && okL sc blk es && decide (0 < es.len)
  | .lc elt tg it ifs scope own _ => okI sc blk tg it && blkC N sc scope own && okTg N (relS scope sc) true tg && (tgIx tg).all (fun i => decide (i ∈ own.map (·.2))) && okL (relS scope sc) true ifs && okC (relS scope sc) true elt && decide (ifs.len ≤ 1)
def okL (sc : Scope) (blk : Bool) : CL → Bool
  | .nil => true
  | .cons c cs => okC sc blk c && okL sc blk cs
def okP (sc : Scope) (blk : Bool) : CP → Bool
  | .nil => true
  | .cons k v r => okC sc blk k && okC sc blk v && okP sc blk r
def okO (sc : Scope) (blk : Bool) : CO → Bool
  | .no => true
  | .so c => okC sc blk c
def okI (sc : Scope) (blk : Bool) (tg : Tg) : CI → Bool
  | .sq c => okC sc blk c
  | .rng1 a _ _ => okGl sc "range" && okC sc blk a
  | .rng2 _ _ _ _ => false
  | .enu c _ _ => okGl sc "enumerate" && okC sc blk c && (match tg with | .tp .. => true | _ => false)
  | .zip _ _ _ _ => false
end
def isTupC : C → Bool
  | .tup .. => true
  | _ => false
/-! what a suite may hold -/
mutual
def hokC (sc : Scope) : C → Bool
  | .var i x _ => okVar N sc i x
  | .cint _ _ _ => true
  | .cbl _ _ _ => true
  | .cnon _ _ => true
  | .cstr _ _ _ => true
  | .glo n x _ => okGl sc x && (match PG.cst[n]? with | some (y, _) => decide (x = y) | none => false)
  | .tup es _ _ => hokL sc es
  | .lst es _ => hokL sc es
  | .bin _ a b _ => hokC sc a && hokC sc b
  | .cmp _ a b _ => hokC sc a && hokC sc b
  | .and_ a es _ => hokC sc a && hokL sc es && decide (0 < es.len)
  | .or_ a es _ => hokC sc a && hokL sc es && decide (0 < es.len)
  | .not_ a _ => hokC sc a
  | .ix a b _ => hokC sc a && hokC sc b
  | .isx i x _ _ n y _ _ => okVar N sc i x && okGl sc "isinstance" && okGl sc y && decide (PG.cls[n]? = some y)
  | _ => false
def hokL (sc : Scope) : CL → Bool
  | .nil => true
  | .cons c cs => hokC sc c && hokL sc cs
end
mutual
def hokS (sc : Scope) : CS → Bool
  | .set i x _ c _ => okNm N sc false i x && hokC PG N sc c && !isLc c
  | .seto i x _ c _ => okNm N sc false i x && hokC PG N sc c && !isLc c
  | .app i x _ pa c pc _ => okVar N sc i x && hokC PG N sc c && (pa.endLine == pc.line)
  | .ifs t a b _ => hokC PG N sc t && hokB sc a && hokB sc b
  | .pass _ => true
  | _ => false
def hokB (sc : Scope) : CB → Bool
  | .nil => true
  | .cons c cs => hokS sc c && hokB sc cs
end
def okH (sc : Scope) : CH → Bool
  | .nil => true
  | .cons n x _ c su _ r => okGl sc x && decide (PG.cls[n]? = some x) && hokS PG N sc c && hokB PG N sc su && okH sc r
  | .as_ n x _ i y c su _ => okGl sc x && decide (PG.cls[n]? = some x) && hokS PG N sc c && hokB PG N sc su && (decide (N[i]? = some y) && kd sc y .local)
def CH.plain : CH → Bool
  | .nil => true
  | .cons _ _ _ _ _ _ r => r.plain
  | .as_ .. => false
def CH.ok : CH → Bool
  | .nil => false
  | .cons _ _ _ _ _ _ r => r.plain
  | .as_ .. => true
mutual
def okS (sc : Scope) : CS → Bool
  | .set i x px c p => okNm N sc false i x && okC PG nm N sc false c && (!isLc c || (kd sc x .local && (match c with
      | .lc _ _ _ _ scope _ q => (px.line == q.line) && !(scope.names.any fun (n, k) => n == x && (k == .local || k == .cell))
      | _ => false)))
  | .seto i x _ c _ => okNm N sc false i x && okC PG nm N sc false c && !isLc c
  | .unp l _ _ c _ => l.all (fun t => okNm N sc false t.1 t.2.1) && okC PG nm N sc false c && !isTupC c
  | .app i x _ pa c pc _ => okVar N sc i x && okC PG nm N sc false c && (pa.endLine == pc.line)
  | .expr c _ => okC PG nm N sc false c && !isLc c
  | .rev i x _ pa pc _ => okVar N sc i x && (pa.endLine == pc.line)
  | .ret c _ => okC PG nm N sc false c
  | .ifs t a b _ => okC PG nm N sc false t && okB sc a && okB sc b
  | .for_ tg it b _ => okTg N sc false tg && okI PG nm N sc false tg it && okB sc b
  | .while_ t b _ => okC PG nm N sc false t && okB sc b
  | .pass _ => true
  | .wild _ => true
  | .raise_ n x _ _ _ _ _ _ => okGl sc x && decide (PG.cls[n]? = some x)
  | .try_ b hs _ => okB sc b && hs.ok && okH PG N sc hs
def okB (sc : Scope) : CB → Bool
  | .nil => true
  | .cons c cs => okS sc c && okB sc cs
end
end

/-! shapes -/
theorem nostar (c : C) (es : List Expr) (env : Env) : starEach (c.up :: es) env = (false, eval c.up env) :: starEach es env := by cases c <;> rfl
theorem plainL (p : Pos) (env : Env) : ∀ cs : CL, (backTo p (starEach cs.up env)).any (·.1) = false
  | .nil => rfl
  | .cons c cs => by
    show (backTo p (starEach (c.up :: cs.up) env)).any (·.1) = false
    rw [nostar]
    exact plainL p env cs
theorem plainA (p : Pos) (env : Env) : ∀ cs : CL, (backTo p (starEach cs.up env)).all (fun x => !x.1) = true
  | .nil => rfl
  | .cons c cs => by
    show (backTo p (starEach (c.up :: cs.up) env)).all (fun x => !x.1) = true
    rw [nostar]
    exact plainA p env cs
theorem up_len : ∀ cs : CL, cs.up.length = cs.len
  | .nil => rfl
  | .cons c cs => by show cs.up.length + 1 = _; rw [up_len cs]; rfl
theorem upK_len : ∀ cs : CP, cs.upK.length = cs.len
  | .nil => rfl
  | .cons c d cs => by show cs.upK.length + 1 = _; rw [upK_len cs]; rfl
theorem upV_len : ∀ cs : CP, cs.upV.length = cs.len
  | .nil => rfl
  | .cons c d cs => by show cs.upV.length + 1 = _; rw [upV_len cs]; rfl
theorem upK_all : ∀ cs : CP, cs.upK.all (·.isSome) = true
  | .nil => rfl
  | .cons c d cs => by show (true && _) = true; rw [upK_all cs]; rfl
theorem base_of {PG : Prog} {nm : Nat → Str} {N : List Str} {sc : Scope} {blk : Bool} (c : C) (f : Str) (env : Env) (h : okC PG nm N sc blk c = true) : attributeBase c.up f env (eval c.up env) = eval c.up env := by
  cases c <;> first
    | rfl
    | (rename_i es _; cases es <;> first | rfl | (simp [okC, CL.len] at h; done))
    | skip
theorem plainIx_of (c : C) : PlainIx c.up := by
  intro o i
  cases c <;> rfl
theorem noSl_of (c : C) : NoSl c.up := by
  intro o i
  cases c <;> rfl
theorem mark_of (o : CmpOp) (c : C) : behindInMarks o c.up = false := by cases c <;> rfl
theorem marks_of (o o' : CmpOp) (b c : C) : lastMarks [o, o'] [b.up, c.up] = false := by cases c <;> rfl
theorem fold_of (c : CI) (env : Env) : ∀ x, foldedSetIterable c.up env x = pure x := by
  intro x
  cases c with
  | sq c => cases c <;> rfl
  | _ => rfl
theorem swaps_of (c : C) (t : Option Expr) (l : Nat) (env : Env) (h : isLc c = false) : swapsWith c.up t l env = pure false := by
  cases c <;> first | rfl | (cases h; done)
theorem swapsT_of (c : C) (l : List (Nat × Str × Pos)) (k : Nat) (pt : Pos) (n : Nat) (env : Env) : swapsWithSole [.Tuple (upNs l) k pt] c.up n env = pure false := by
  cases c <;> rfl
theorem swapped_of (c : C) (l : List (Nat × Str × Pos)) (k : Nat) (pt : Pos) (env : Env) (h : isTupC c = false) : swappedStores [.Tuple (upNs l) k pt] c.up env = pure none := by
  cases c <;> first | rfl | (cases h; done)
/-- tests that are told by their value -/
def byVal : C → Bool
  | .cmp .. => false
  | .din .. => false
  | .chain .. => false
  | .and_ .. => false
  | .or_ .. => false
  | .not_ .. => false
  | .ife .. => false
  | .un .. => false
  | _ => true
theorem isTrue_of (c : C) (env : Env) (h : byVal c = true) : ∀ whole, isTrue c.up env whole = (do let v ← whole; standAt c.up.pos; holding [v] (truthy v)) := by
  intro w
  cases c <;> first | rfl | (cases h; done)
end BB

namespace BB
open PySem PySem.Spec PyProof.Rows L2
/-- an own exception class that has no __init__ of its own -/
structure ClsOk (K : PySem.W.Frag) (C : Addr) : Prop where
  q : PySem.W.excIn K C [.type "ValueError", .type "Exception", .type "BaseException", .type "object"] "ValueError.__new__" = true
  kp : PySem.W.keepIn K (.ref C) = true
  sb : PySem.W.subIn K (.ref C) (.type "BaseException") = some true
  ty : PySem.W.typeIn K (.ref C) = some (.type "type")
  ex : ExcC K C
/-- what the text around says -/
structure Mg (X : Cx) (PG : Prog) (nm : Nat → Str) (T : Tab) : Prop where
  fn : ∀ n : Nat, (PG.fns[n]?).isSome = true → X.mg (nm n) = some (.ref (T.f n))
  bi : ∀ b : Bi, X.mg b.name = none
  rng : X.mg "range" = none
  enu : X.mg "enumerate" = none
  zip : X.mg "zip" = none
  ty : ∀ n ∈ types, X.mg (Str.ofString n) = none
  cst : ∀ (n : Nat) (x : Str) (d : D), PG.cst[n]? = some (x, d) → ∃ u v, X.mg x = some u ∧ RelV v u ∧ ∀ G H, RV T X.K G H v d
  cls : ∀ (n : Nat) (x : Str), PG.cls[n]? = some x → X.mg x = some (.ref (T.c n)) ∧ ClsOk X.K (T.c n)
  sub : ∀ (n m : Nat) (x y : Str), PG.cls[n]? = some x → PG.cls[m]? = some y → PySem.W.exmOne X.K (.ref (T.c n)) (.ref (T.c m)) = some (PG.sub n m) ∧ PySem.W.kitOne X.K (.ref (T.c n)) (.ref (T.c m)) = some (PG.sub n m)
structure Cxt (X : Cx) (PG : Prog) (nm : Nat → Str) (T : Tab) (N : List Str) (sc : Scope) (k : Nat) : Prop where
  N : X.N = N
  sc : X.env.scope = sc
  calm : X.calm = true
  nd : X.N.Nodup
  room : Room k X.A
  F : Fns X PG T k
  mg : Mg X PG nm T
  nx : T.x = none
theorem boot_ty {n : String} (h : n ∈ types) : bootBuiltins (Str.ofString n) = some (.type n) := by
  unfold types at h
  simp only [List.mem_cons, List.not_mem_nil, or_false] at h
  rcases h with rfl | rfl | rfl | rfl | rfl | rfl <;> decide +kernel
section
variable {X : Cx} {PG : Prog} {nm : Nat → Str} {T : Tab} {N : List Str} {sc : Scope} {k : Nat}
theorem Cxt.hu (h : Cxt X PG nm T N sc k) : X.A.units + 64 < cLine := h.room.units
theorem Cxt.blk (h : Cxt X PG nm T N sc k) (s : Shared) (H : Hp) (scope : Scope) (C : Addr) (cl : List (Str × Addr)) (fp : List Addr) : Cxt (X.blk s H scope (compEnvC scope cl C X.env) fp) PG nm T N (relS scope sc) k := by
  refine ⟨h.N, ?_, h.calm, h.nd, h.room, ⟨h.F.fn⟩, ⟨h.mg.fn, h.mg.bi, h.mg.rng, h.mg.enu, h.mg.zip, h.mg.ty, h.mg.cst, h.mg.cls, h.mg.sub⟩, h.nx⟩
  rw [← h.sc]; rfl
theorem kd_of {x : Str} {q : NameKind} (h : kd sc x q = true) : sc.names.lookup x = some q := of_decide_eq_true h
theorem var_of (h : Cxt X PG nm T N sc k) {i : Nat} {x : Str} {p : Pos} (o : okVar N sc i x = true) : PE X (.Name x p) (tVar i) := by
  unfold okVar at o
  simp only [Bool.and_eq_true, Bool.or_eq_true, Bool.not_eq_true', decide_eq_true_eq] at o
  obtain ⟨⟨⟨o1, o2⟩, o3⟩, o4⟩ := o
  refine pe_var (by rw [h.N]; exact o1) ?_ o3 o4
  unfold Vis
  rw [h.sc]
  rcases o2 with (o2 | o2) | o2
  · exact .inl (kd_of o2)
  · exact .inr (.inl (kd_of o2))
  · exact .inr (.inr (kd_of o2))
theorem gl_of (h : Cxt X PG nm T N sc k) {x : Str} (o : okGl sc x = true) : Gl X x ∧ (x == ("__debug__" : Str)) = false ∧ x ≠ "__name__" := by
  unfold okGl at o
  simp only [Bool.and_eq_true, Bool.not_eq_true'] at o
  obtain ⟨⟨o1, o2⟩, o3⟩ := o
  refine ⟨?_, o2, fun z => ?_⟩
  · show X.env.scope.names.lookup x = _
    rw [h.sc]; exact kd_of o1
  · rw [z] at o3; exact absurd o3 (by decide)
theorem nm_of (h : Cxt X PG nm T N sc k) {blk : Bool} (hf : blk = false → X.fn = fun _ => true) {i : Nat} {x : Str} (o : okNm N sc blk i x = true) : NmOk X i x := by
  unfold okNm at o
  simp only [Bool.and_eq_true, Bool.or_eq_true, Bool.not_eq_true', decide_eq_true_eq] at o
  obtain ⟨o1, o2⟩ := o
  refine ⟨by rw [h.N]; exact o1, ?_⟩
  unfold L2.Loc
  rw [h.sc]
  rcases o2 with o2 | ⟨o2, o3⟩
  · exact ⟨.inl (kd_of o2), .inr (kd_of o2)⟩
  · exact ⟨.inr (kd_of o3), .inl (by rw [hf o2])⟩
theorem nms_of (h : Cxt X PG nm T N sc k) {blk : Bool} (hf : blk = false → X.fn = fun _ => true) : ∀ {l : List (Nat × Str × Pos)}, (l.all fun t => okNm N sc blk t.1 t.2.1) = true → NmsOk X l
  | [], _ => trivial
  | (i, x, p) :: r, o => by
    rw [List.all_cons, Bool.and_eq_true] at o
    exact ⟨nm_of h hf o.1, nms_of h hf o.2⟩
theorem tg_of (h : Cxt X PG nm T N sc k) {blk : Bool} (hf : blk = false → X.fn = fun _ => true) {tg : Tg} (o : okTg N sc blk tg = true) : TgOk X tg := by
  cases tg with
  | nm i x p => exact nm_of h hf o
  | tp l k p => exact nms_of h hf o
theorem few_of (p : Pos) (env : Env) (c : C) (cs : CL) (h : cs.len + 1 < 29) : ((backTo p (starEach (c.up :: cs.up) env)).all (fun x => !x.1) && (backToKw p (keywordEach [] env)).all (fun x => x.1.isSome)
      && decide ((c.up :: cs.up).length + ([] : List Keyword).length + (if ([] : List Keyword).isEmpty then 0 else 1) < 30)) = true := by
  have h1 := plainA p env (.cons c cs)
  have h1 : (backTo p (starEach (c.up :: cs.up) env)).all (fun x => !x.1) = true := h1
  rw [h1]
  have h2 : (backToKw p (keywordEach [] env)).all (fun x => x.1.isSome) = true := rfl
  rw [h2]
  have h3 : (c.up :: cs.up).length = cs.len + 1 := by rw [List.length_cons, up_len]
  rw [h3]
  simp
  omega
end
/-- the word of an expression -/
abbrev SE (PG : Prog) (nm : Nat → Str) (T : Tab) (N : List Str) (k : Nat) (c : C) : Prop := ∀ (X : Cx) (sc : Scope) (blk : Bool) (B : Bs) (W : WX), Cxt X PG nm T N sc k → L2.Takes X W → okC PG nm N sc blk c = true →
  PE X c.up (tE T X.K B W (ev PG (cal PG k) c)) ∧ PT X c.up (tT T X.K B W fun s => asB (ev PG (cal PG k) c s))
section
variable {PG : Prog} {nm : Nat → Str} {T : Tab} {N : List Str} {k : Nat}
/-- by its value -/
theorem se_val {X : Cx} {B : Bs} {W : WX} {c : C} (hv : byVal c = true) (h : PE X c.up (tE T X.K B W (ev PG (cal PG k) c))) : PE X c.up (tE T X.K B W (ev PG (cal PG k) c)) ∧ PT X c.up (tT T X.K B W fun s => asB (ev PG (cal PG k) c s)) :=
  ⟨h, sT_val h (isTrue_of c X.env hv)⟩
theorem a2 {a b : Bool} (h : (a && b) = true) : a = true ∧ b = true := by rwa [Bool.and_eq_true] at h
theorem a3 {a b c : Bool} (h : (a && b && c) = true) : a = true ∧ b = true ∧ c = true := ⟨(a2 (a2 h).1).1, (a2 (a2 h).1).2, (a2 h).2⟩
theorem a4 {a b c d : Bool} (h : (a && b && c && d) = true) : a = true ∧ b = true ∧ c = true ∧ d = true := ⟨(a3 (a2 h).1).1, (a3 (a2 h).1).2.1, (a3 (a2 h).1).2.2, (a2 h).2⟩
theorem a5 {a b c d e : Bool} (h : (a && b && c && d && e) = true) : a = true ∧ b = true ∧ c = true ∧ d = true ∧ e = true := ⟨(a4 (a2 h).1).1, (a4 (a2 h).1).2.1, (a4 (a2 h).1).2.2.1, (a4 (a2 h).1).2.2.2, (a2 h).2⟩
/-- lists of values to be joined: what an and, an or wants of the rest -/
abbrev SAnd (PG : Prog) (nm : Nat → Str) (T : Tab) (N : List Str) (k : Nat) (cs : CL) : Prop := ∀ (X : Cx) (sc : Scope) (blk : Bool) (B : Bs) (W : WX) (p : Pos), Cxt X PG nm T N sc k → L2.Takes X W → okL PG nm N sc blk cs = true → 0 < cs.len →
  (PE X (.BoolOp .And cs.up p) (tE T X.K B W (evAnd PG (cal PG k) cs)) ∧ PW X (.BoolOp .And cs.up p) (tT T X.K B W fun s => asB (evAnd PG (cal PG k) cs s))) ∧
  (PE X (.BoolOp .Or cs.up p) (tE T X.K B W (evOr PG (cal PG k) cs)) ∧ PW X (.BoolOp .Or cs.up p) (tT T X.K B W fun s => asB (evOr PG (cal PG k) cs s)))
abbrev SL (PG : Prog) (nm : Nat → Str) (T : Tab) (N : List Str) (k : Nat) (cs : CL) : Prop := ∀ (X : Cx) (sc : Scope) (blk : Bool) (B : Bs) (W : WX), Cxt X PG nm T N sc k → L2.Takes X W → okL PG nm N sc blk cs = true →
  PA X cs.up (tL T X.K B W (evL PG (cal PG k) cs)) ∧ (cs.len ≤ 1 → PTs X cs.up (tT T X.K B W (evIfs PG (cal PG k) cs))) ∧
  (0 < cs.len → ∀ p, (PE X (.BoolOp .And cs.up p) (tE T X.K B W (evAnd PG (cal PG k) cs)) ∧ PW X (.BoolOp .And cs.up p) (tT T X.K B W fun s => asB (evAnd PG (cal PG k) cs s))) ∧
  (PE X (.BoolOp .Or cs.up p) (tE T X.K B W (evOr PG (cal PG k) cs)) ∧ PW X (.BoolOp .Or cs.up p) (tT T X.K B W fun s => asB (evOr PG (cal PG k) cs s))))
theorem pts_imp {X : Cx} {e : List Expr} {t t' : TT} (h : PTs X e t) (i : ∀ σ H Q, t' σ H Q → t σ H Q) : PTs X e t' := ⟨fun pins s σ H Q I q => h.run pins s σ H Q I (i σ H Q q)⟩
abbrev SI (PG : Prog) (nm : Nat → Str) (T : Tab) (N : List Str) (k : Nat) (c : CI) : Prop := ∀ (X : Cx) (sc : Scope) (blk : Bool) (B : Bs) (W : WX) (tg : Tg), Cxt X PG nm T N sc k → L2.Takes X W → okI PG nm N sc blk tg c = true →
  PI X tg.up c.up (tI T X.K B W (evI PG (cal PG k) c))
theorem sT_ife {X : Cx} {B : Bs} {W : WX} {t a b : Expr} {ct ca cb : S → Oc R} {p : Pos} (ht : PT X t (tT T X.K B W fun s => asB (ct s))) (ha : PT X a (tT T X.K B W fun s => asB (ca s))) (hb : PT X b (tT T X.K B W fun s => asB (cb s))) :
    PT X (.IfExp t a b p) (tT T X.K B W fun s => asB ((asB (ct s)).bind fun t s1 => if t = true then ca s1 else cb s1)) := by
  refine ⟨fun pins s σ H Q I q => ?_⟩
  have q : (tT T X.K B W fun s => asB (ct s)) σ H fun c H1 => if c = true then (tT T X.K B W fun s => asB (ca s)) σ H1 Q else (tT T X.K B W fun s => asB (cb s)) σ H1 Q := by
    obtain ⟨G, s', hR, q⟩ := q
    dsimp only at q
    rw [asB_bind2] at q
    refine ⟨G, s', hR, at_bind q (.refl _ _ _ _) fun t s1 G1 H1 b st z1 R1 p1 q1 => ?_⟩
    cases (show b = t from p1)
    cases t with
    | true => exact ⟨G1, s1, R1, at_tail back_B q1 z1⟩
    | false => exact ⟨G1, s1, R1, at_tail back_B q1 z1⟩
  show wpAny _ _ (do if ← isTrue t X.env (eval t X.env) then isTrue a X.env (eval a X.env) else isTrue b X.env (eval b X.env)) _ _ _
  refine wpAny_bind (thn (ht.run pins s σ H _ I q) fun d s1 ⟨H1, I1, q1⟩ => ?_)
  cases d with
  | true => exact ha.run pins s1 σ H1 Q I1 q1
  | false => exact hb.run pins s1 σ H1 Q I1 q1
/-- a comprehension's reading -/
theorem lcRead (elt : C) (tg : Tg) (it : CI) (ifs : CL) (scope : Scope) (own : List (Str × Nat)) (p : Pos) (X : Cx) (sc : Scope) (blk : Bool) (B : Bs) (W : WX) (h : Cxt X PG nm T N sc k) (tk : L2.Takes X W) (o : okC PG nm N sc blk (.lc elt tg it ifs scope own p) = true)
    (hI : SI PG nm T N k it) (hL : SL PG nm T N k ifs) (hE : SE PG nm T N k elt) :
    PE X (C.lc elt tg it ifs scope own p).up (tLc (tI T X.K B W (evI PG (cal PG k) it)) (tTg T X.K tg) (tT T X.K B W0 (evIfs PG (cal PG k) ifs)) (tE T X.K B W0 (ev PG (cal PG k) elt)) (own.map (·.2))) ∧
    ∀ σ H Q, tE T X.K B W (ev PG (cal PG k) (.lc elt tg it ifs scope own p)) σ H Q → tLc (tI T X.K B W (evI PG (cal PG k) it)) (tTg T X.K tg) (tT T X.K B W0 (evIfs PG (cal PG k) ifs)) (tE T X.K B W0 (ev PG (cal PG k) elt)) (own.map (·.2)) σ H Q := by
  obtain ⟨o, o7⟩ := a2 (show (okI PG nm N sc blk tg it && blkC N sc scope own && okTg N (relS scope sc) true tg && (tgIx tg).all (fun i => decide (i ∈ own.map (·.2))) && okL PG nm N (relS scope sc) true ifs && okC PG nm N (relS scope sc) true elt && decide (ifs.len ≤ 1)) = true from o)
  obtain ⟨o, o6⟩ := a2 o
  obtain ⟨o1, o2, o3, o4, o5⟩ := a5 o
  have hi := hI X sc blk B W tg h tk o1
  have ok : BlkOk X.N X.env.scope scope own := by rw [h.N, h.sc]; exact blkOk_by o2
  have hg : ∀ (s : Shared) (H : Hp) (C : Addr) (cl : List (Str × Addr)) (fp : List Addr), TgOk (X.blk s H scope (compEnvC scope cl C X.env) fp) tg := fun s H C cl fp => tg_of (h.blk s H scope C cl fp) (fun z => Bool.noConfusion z) o3
  have ht : ∀ (s : Shared) (H : Hp) (C : Addr) (cl : List (Str × Addr)) (fp : List Addr), PTs (X.blk s H scope (compEnvC scope cl C X.env) fp) ifs.up (tT T X.K B W0 (evIfs PG (cal PG k) ifs)) := fun s H C cl fp =>
    (hL (X.blk s H scope (compEnvC scope cl C X.env) fp) (relS scope sc) true B W0 (h.blk s H scope C cl fp) takes0 o5).2.1 (of_decide_eq_true o7)
  have he : ∀ (s : Shared) (H : Hp) (C : Addr) (cl : List (Str × Addr)) (fp : List Addr), PE (X.blk s H scope (compEnvC scope cl C X.env) fp) elt.up (tE T X.K B W0 (ev PG (cal PG k) elt)) := fun s H C cl fp =>
    (hE (X.blk s H scope (compEnvC scope cl C X.env) fp) (relS scope sc) true B W0 (h.blk s H scope C cl fp) takes0 o6).1
  have hx : ∀ i ∈ tgIx tg, i ∈ own.map (·.2) := fun i hi => of_decide_eq_true (List.all_eq_true.mp o4 i hi)
  have hpg : ∀ (s : Shared) (H : Hp) (C : Addr) (cl : List (Str × Addr)) (fp : List Addr), L2.PG (X.blk s H scope (compEnvC scope cl C X.env) fp) tg.up (tTg T X.K tg) := fun s H C cl fp => pg_tg (X := X.blk s H scope (compEnvC scope cl C X.env) fp) (T := T) h.calm h.nd (hg s H C cl fp)
  exact ⟨pe_lc h.calm h.nd hi ok hpg ht he (fold_of it _), sE_lc (p := p) h.calm h.nd hi ok hg hx ht he (fold_of it _)⟩
mutual
theorem snd : ∀ c : C, SE PG nm T N k c
  | .var i x p => fun X sc blk B W h tk o => se_val rfl (sE_var (var_of h o))
  | .fz i x p => fun X sc blk B W h tk o => se_val rfl (sE_fz (var_of h o))
  | .mv i x p => fun X sc blk B W h tk o => se_val rfl (sE_mv (var_of h o))
  | .cint n j p => fun X sc blk B W h tk o => se_val rfl (sE_val pe_int fun _ _ => .int n)
  | .cbl n j p => fun X sc blk B W h tk o => se_val rfl (sE_val pe_bl fun _ _ => .bl n)
  | .cnon j p => fun X sc blk B W h tk o => se_val rfl (sE_val pe_non fun _ _ => .non)
  | .cstr n j p => fun X sc blk B W h tk o => se_val rfl (sE_val pe_str fun _ _ => .str n)
  | .glo n x p => fun X sc blk B W h tk o => se_val rfl (by
      obtain ⟨o1, o2⟩ := a2 o
      obtain ⟨g1, g2, g3⟩ := gl_of h o1
      cases e : PG.cst[n]? with
      | none => rw [e] at o2; cases o2
      | some y =>
        obtain ⟨y, d⟩ := y
        rw [e] at o2
        have o2 : x = y := of_decide_eq_true o2
        subst o2
        obtain ⟨u, v, m1, m2, m3⟩ := h.mg.cst n x d e
        have z := sE_val (T := T) (B := B) (W := W) (pe_glob (pos := p) g1 m1 m2 g2) m3
        refine pe_imp z fun σ H Q ⟨G, s, hR, q⟩ => ⟨G, s, hR, ?_⟩
        have q : At T X.K B W (PR T X.K B) (match PG.cst[n]? with
          | some (_, d) => Oc.ok (R.va d) s
          | none => .bad) G s σ H Q := q
        rw [e] at q
        exact q)
  | .bty n x p => fun X sc blk B W h tk o => se_val rfl (by
      obtain ⟨o1, o2, o3⟩ := a3 o
      obtain ⟨g1, g2, g3⟩ := gl_of h o1
      have o2 := of_decide_eq_true o2
      have o3 : x = Str.ofString n := of_decide_eq_true o3
      subst o3
      exact sE_val (pe_bltn g1 (h.mg.ty n o2) (boot_ty o2) (v := .ty n) rfl g3 g2) fun _ _ => .ty n)
  | .tup es j p => fun X sc blk B W h tk o => se_val rfl (sE_tup (sndL es X sc blk B W h tk o).1)
  | .lst es p => fun X sc blk B W h tk o => se_val rfl (sE_lst (sndL es X sc blk B W h tk o).1)
  | .dct ps p => fun X sc blk B W h tk o => se_val rfl (by
      obtain ⟨o1, o2, o3⟩ := a3 o
      have o2 := of_decide_eq_true o2
      have o3 := of_decide_eq_true o3
      refine sE_dct (sndP ps X sc blk B W p h tk o1) (upK_all ps) ((upK_len ps).trans (upV_len ps).symm) (fun z => ?_) (by rw [upK_len]; exact o3)
      have := upK_len ps
      rw [z] at this
      simp at this
      omega)
  | .bin op a b p => fun X sc blk B W h tk o => se_val rfl (sE_bin (snd a X sc blk B W h tk (a2 o).1).1 (snd b X sc blk B W h tk (a2 o).2).1)
  | .un op a p => fun X sc blk B W h tk o => by
      obtain ⟨o1, o2⟩ := a2 o
      have z : PE X (C.un op a p).up (tE T X.K B W (ev PG (cal PG k) (.un op a p))) := sE_un (p := p) (snd a X sc blk B W h tk o2).1
      cases op <;> first | (cases o1; done) | exact ⟨z, sT_val z fun _ => rfl⟩
  | .cmp op a b p => fun X sc blk B W h tk o => ⟨sE_cmp h.hu (mark_of op b) (snd a X sc blk B W h tk (a2 o).1).1 (snd b X sc blk B W h tk (a2 o).2).1, sT_cmp h.hu (mark_of op b) (snd a X sc blk B W h tk (a2 o).1).1 (snd b X sc blk B W h tk (a2 o).2).1⟩
  | .chain op op' a b c p => fun X sc blk B W h tk o => ⟨sE_chain h.hu (marks_of op op' b c) (snd a X sc blk B W h tk (a3 o).1).1 (snd b X sc blk B W h tk (a3 o).2.1).1 (snd c X sc blk B W h tk (a3 o).2.2).1,
      sT_chain h.hu (marks_of op op' b c) (snd a X sc blk B W h tk (a3 o).1).1 (snd b X sc blk B W h tk (a3 o).2.1).1 (snd c X sc blk B W h tk (a3 o).2.2).1⟩
  | .and_ a (.cons b bs) p => fun X sc blk B W h tk o => by
      obtain ⟨o1, o2, o3⟩ := a3 o
      have ha := snd a X sc blk B W h tk o1
      have hb := ((sndL (.cons b bs) X sc blk B W h tk o2).2.2 (of_decide_eq_true o3) p).1
      exact ⟨sE_and ha.1 hb.1, (sW_and ha.2 hb.2).pt⟩
  | .and_ a .nil p => fun X sc blk B W h tk o => absurd (of_decide_eq_true (a3 o).2.2) (by decide)
  | .or_ a (.cons b bs) p => fun X sc blk B W h tk o => by
      obtain ⟨o1, o2, o3⟩ := a3 o
      have ha := snd a X sc blk B W h tk o1
      have hb := ((sndL (.cons b bs) X sc blk B W h tk o2).2.2 (of_decide_eq_true o3) p).2
      exact ⟨sE_or ha.1 hb.1, (sW_or ha.2 hb.2).pt⟩
  | .or_ a .nil p => fun X sc blk B W h tk o => absurd (of_decide_eq_true (a3 o).2.2) (by decide)
  | .not_ a p => fun X sc blk B W h tk o => ⟨sE_not (snd a X sc blk B W h tk o).1, sT_not (snd a X sc blk B W h tk o).2⟩
  | .ife t a b p => fun X sc blk B W h tk o => by
      obtain ⟨o1, o2, o3⟩ := a3 o
      have ht := snd t X sc blk B W h tk o1
      have ha := snd a X sc blk B W h tk o2
      have hb := snd b X sc blk B W h tk o3
      exact ⟨sE_ife ht.2 ha.1 hb.1, sT_ife ht.2 ha.2 hb.2⟩
  | .call n x px (.cons e es) p => fun X sc blk B W h tk o => se_val rfl (by
      obtain ⟨o1, o2, o3, o4, o5⟩ := a5 o
      obtain ⟨g1, g2, g3⟩ := gl_of h o1
      have o2 : nm n = x := of_decide_eq_true o2
      have m := h.mg.fn n o3
      rw [o2] at m
      exact sE_call h.F h.room tk g1 m g2 (sndL (.cons e es) X sc blk B W h tk o4).1 (nostar e _ _) (plainL p _ es) (Option.isSome_iff_exists.mp o3))
  | .call n x px .nil p => fun X sc blk B W h tk o => absurd (of_decide_eq_true (a5 o).2.2.2.2) (by decide)
  | .bi b px (.cons e es) p => fun X sc blk B W h tk o => se_val rfl (by
      obtain ⟨o1, o2, o3⟩ := a3 o
      exact sE_bi h.calm (gl_of h o1).1 (h.mg.bi b) (sndL (.cons e es) X sc blk B W h tk o2).1 (nostar e _ _) (plainL p _ es))
  | .bi b px .nil p => fun X sc blk B W h tk o => absurd (of_decide_eq_true (a3 o).2.2) (by decide)
  | .mt m r pa (.cons e es) p => fun X sc blk B W h tk o => se_val rfl (by
      obtain ⟨o1, o2, o3, o4, o5⟩ := a5 o
      have o3 : es.len + 1 < 28 := of_decide_eq_true o3
      exact sE_mt (of_decide_eq_true o5) (snd r X sc blk B W h tk o1).1 (sndL (.cons e es) X sc blk B W h tk o2).1 (base_of r _ _ o1) (nostar e _ _) (plainL p _ es) (few_of p _ e es (by omega)) o4)
  | .mt m r pa .nil p => fun X sc blk B W h tk o => se_val rfl (by
      obtain ⟨o1, o2, o3, o4, o5⟩ := a5 o
      exact sE_mt0 (of_decide_eq_true o5) (snd r X sc blk B W h tk o1).1 (base_of r _ _ o1) o4)
  | .get2 r a b pa p => fun X sc blk B W h tk o => se_val rfl (by
      obtain ⟨o1, o2, o3, o4⟩ := a4 o
      have hu := h.hu
      refine sE_get2 (by omega) (snd r X sc blk B W h tk o1).1 (snd a X sc blk B W h tk o2).1 (snd b X sc blk B W h tk o3).1 ⟨base_of r _ _ o1, few_of p _ a (.cons b .nil) (by show 0 + 1 + 1 < 29; decide), o4, ?_⟩
      have e1 := nostar a [b.up] X.env
      have e2 := nostar b [] X.env
      rw [e2] at e1
      rw [e1]
      rfl)
  | .ix a b p => fun X sc blk B W h tk o => se_val rfl (sE_ix (snd a X sc blk B W h tk (a2 o).1).1 (snd b X sc blk B W h tk (a2 o).2).1 (plainIx_of b))
  | .dix a b p => fun X sc blk B W h tk o => se_val rfl (by
      have hu := h.hu
      exact sE_dix (by omega) (snd a X sc blk B W h tk (a2 o).1).1 (snd b X sc blk B W h tk (a2 o).2).1 (noSl_of b))
  | .din n a b p => fun X sc blk B W h tk o => ⟨by
      have hu := h.hu
      exact sE_din (by omega) (snd a X sc blk B W h tk (a2 o).1).1 (snd b X sc blk B W h tk (a2 o).2).1 (mark_of _ b), by
      have hu := h.hu
      exact sT_din (by omega) (snd a X sc blk B W h tk (a2 o).1).1 (snd b X sc blk B W h tk (a2 o).2).1 (mark_of _ b)⟩
  | .sl a lo hi ps p => fun X sc blk B W h tk o => se_val rfl (by
      obtain ⟨o1, o2, o3⟩ := a3 o
      exact sE_sl (snd a X sc blk B W h tk o1).1 (sndO lo X sc blk B W h tk o2) (sndO hi X sc blk B W h tk o3))
  | .rvt a k' q1 q2 q3 p => fun X sc blk B W h tk o => se_val rfl (sE_rvt (snd a X sc blk B W h tk o).1)
  | .fnv n x p => fun X sc blk B W h tk o => se_val rfl (by
      obtain ⟨o1, o2, o3⟩ := a3 o
      obtain ⟨g1, g2, g3⟩ := gl_of h o1
      have o2 : nm n = x := of_decide_eq_true o2
      have m := h.mg.fn n o3
      rw [o2] at m
      exact sE_val (pe_glob (v := .ref (T.f n)) g1 m rfl g2) fun _ _ => .fn n)
  | .calv i x px (.cons e es) p => fun X sc blk B W h tk o => se_val rfl (by
      obtain ⟨o1, o2, o3⟩ := a3 o
      exact sE_calv h.F h.room tk (var_of h o1) (sndL (.cons e es) X sc blk B W h tk o2).1 (nostar e _ _) (plainL p _ es))
  | .calv i x px .nil p => fun X sc blk B W h tk o => absurd (of_decide_eq_true (a3 o).2.2) (by decide)
  | .isx i x px pf n y py p => fun X sc blk B W h tk o => absurd (show false = true from o) (by decide)
  | .lc elt tg it ifs scope own p => fun X sc blk B W h tk o => se_val rfl (by
      have L := lcRead elt tg it ifs scope own p X sc blk B W h tk o (sndI it) (sndL ifs) (snd elt)
      exact pe_imp L.1 L.2)
theorem sndL : ∀ cs : CL, SL PG nm T N k cs
  | .nil => fun X sc blk B W h tk o => ⟨sL_nil, fun _ => pts_imp pts_nil fun σ H Q ⟨G, s, hR, q⟩ => q G H true (.refl _ _ _ _) hR rfl, fun z => absurd z (by decide)⟩
  | .cons c .nil => fun X sc blk B W h tk o => by
      have hc := snd c X sc blk B W h tk (a2 o).1
      refine ⟨sL_cons hc.1 sL_nil (nostar c _ _), fun _ => pts_one hc.2, fun _ p => ⟨⟨pe_one hc.1, pw_and1 hc.2⟩, ⟨pe_one hc.1, pw_or1 hc.2⟩⟩⟩
  | .cons c (.cons d ds) => fun X sc blk B W h tk o => by
      have hc := snd c X sc blk B W h tk (a2 o).1
      have hd := sndL (.cons d ds) X sc blk B W h tk (a2 o).2
      refine ⟨sL_cons hc.1 hd.1 (nostar c _ _), fun z => absurd z (by simp [CL.len]), fun _ p => ?_⟩
      have r := hd.2.2 (by simp [CL.len]) p
      exact ⟨⟨sE_and hc.1 r.1.1, sW_and hc.2 r.1.2⟩, ⟨sE_or hc.1 r.2.1, sW_or hc.2 r.2.2⟩⟩
theorem sndO : ∀ (c : CO) (X : Cx) (sc : Scope) (blk : Bool) (B : Bs) (W : WX), Cxt X PG nm T N sc k → L2.Takes X W → okO PG nm N sc blk c = true → PO X c.up (tO (T := T) (B := B) (W := W) (X := X) (evO PG (cal PG k) c))
  | .no => fun X sc blk B W h tk o => sO_no
  | .so c => fun X sc blk B W h tk o => sO_so (snd c X sc blk B W h tk o).1
theorem sndI : ∀ (c : CI), SI PG nm T N k c
  | .sq c => fun X sc blk B W tg h tk o => sI_sq (snd c X sc blk B W h tk o).1
  | .rng1 a px p => fun X sc blk B W tg h tk o => sI_rng1 (gl_of h (a2 o).1).1 h.mg.rng (snd a X sc blk B W h tk (a2 o).2).1 (nostar a _ _)
  | .rng2 a b px p => fun X sc blk B W tg h tk o => absurd (show false = true from o) (by decide)
  | .enu c px p => fun X sc blk B W tg h tk o => by
      obtain ⟨o1, o2, o3⟩ := a3 o
      cases tg with
      | nm i x q => cases o3
      | tp l j q => exact sI_enu (gl_of h o1).1 h.mg.enu (snd c X sc blk B W h tk o2).1 (nostar c _ _)
  | .zip a b px p => fun X sc blk B W tg h tk o => absurd (show false = true from o) (by decide)
theorem sndP : ∀ (ps : CP) (X : Cx) (sc : Scope) (blk : Bool) (B : Bs) (W : WX) (p : Pos), Cxt X PG nm T N sc k → L2.Takes X W → okP PG nm N sc blk ps = true → PPs X p ps.upK ps.upV (trs T X.K B W PG (cal PG k) ps)
  | .nil => fun X sc blk B W p h tk o => pps_nil
  | .cons a b r => fun X sc blk B W p h tk o => pps_cons (snd a X sc blk B W h tk (a3 o).1).1 (snd b X sc blk B W h tk (a3 o).2.1).1 (sndP r X sc blk B W p h tk (a3 o).2.2)
end
end
end BB

namespace BB
open PySem PySem.Spec PyProof.Rows L2
/-! suites -/
/-- what holds in a suite -/
structure HCxt (X : Cx) (PG : Prog) (T : Tab) (N : List Str) (sc : Scope) : Prop where
  N : X.N = N
  sc : X.env.scope = sc
  nd : X.N.Nodup
  hu : X.A.units + 64 < cLine
  cst : ∀ (n : Nat) (x : Str) (d : D), PG.cst[n]? = some (x, d) → ∃ u v, X.mg x = some u ∧ RelV v u ∧ ∀ G H, RV T X.K G H v d
  cls : ∀ (n : Nat) (x : Str), PG.cls[n]? = some x → X.mg x = some (.ref (T.c n))
  sub : ∀ (n m : Nat) (x y : Str), PG.cls[n]? = some x → PG.cls[m]? = some y → PySem.W.kitOne X.K (.ref (T.c n)) (.ref (T.c m)) = some (PG.sub n m)
  isi : X.mg "isinstance" = none
  isE : ∀ (a : Addr) (c : Nat) (x : Str), T.x = some (a, .ref (T.c c), none) → PG.cls[c]? = some x → CallR X (.builtin "isinstance") (rIsE X.K (T.c c) a)
section
variable {X : Cx} {PG : Prog} {T : Tab} {N : List Str} {sc : Scope} {k : Nat}
theorem HCxt.var (h : HCxt X PG T N sc) {i : Nat} {x : Str} {p : Pos} (o : okVar N sc i x = true) : PE X (.Name x p) (tVar i) := by
  unfold okVar at o
  simp only [Bool.and_eq_true, Bool.or_eq_true, Bool.not_eq_true', decide_eq_true_eq] at o
  obtain ⟨⟨⟨o1, o2⟩, o3⟩, o4⟩ := o
  refine pe_var (by rw [h.N]; exact o1) ?_ o3 o4
  unfold Vis
  rw [h.sc]
  rcases o2 with (o2 | o2) | o2
  · exact .inl (kd_of o2)
  · exact .inr (.inl (kd_of o2))
  · exact .inr (.inr (kd_of o2))
theorem HCxt.gl (h : HCxt X PG T N sc) {x : Str} (o : okGl sc x = true) : Gl X x ∧ (x == ("__debug__" : Str)) = false ∧ x ≠ "__name__" := by
  unfold okGl at o
  simp only [Bool.and_eq_true, Bool.not_eq_true'] at o
  obtain ⟨⟨o1, o2⟩, o3⟩ := o
  refine ⟨?_, o2, fun z => ?_⟩
  · show X.env.scope.names.lookup x = _
    rw [h.sc]; exact kd_of o1
  · rw [z] at o3; exact absurd o3 (by decide)
theorem HCxt.nm (h : HCxt X PG T N sc) (hf : X.fn = fun _ => true) {i : Nat} {x : Str} (o : okNm N sc false i x = true) : NmOk X i x := by
  unfold okNm at o
  simp only [Bool.and_eq_true, Bool.or_eq_true, Bool.not_eq_true', decide_eq_true_eq] at o
  obtain ⟨o1, o2⟩ := o
  refine ⟨by rw [h.N]; exact o1, ?_⟩
  unfold L2.Loc
  rw [h.sc]
  rcases o2 with o2 | ⟨o2, o3⟩
  · exact ⟨.inl (kd_of o2), .inr (kd_of o2)⟩
  · exact ⟨.inr (kd_of o3), .inl (by rw [hf])⟩
end
abbrev HSE (PG : Prog) (T : Tab) (N : List Str) (k : Nat) (c : C) : Prop := ∀ (X : Cx) (sc : Scope) (B : Bs) (W : WX), HCxt X PG T N sc → hokC PG N sc c = true →
  PE X c.up (tE T X.K B W (ev PG (cal PG k) c)) ∧ PT X c.up (tT T X.K B W fun s => asB (ev PG (cal PG k) c s))
section
variable {PG : Prog} {T : Tab} {N : List Str} {k : Nat}
theorem sE_isx {X : Cx} {sc : Scope} {B : Bs} {W : WX} (h : HCxt X PG T N sc) {i n : Nat} {x y : Str} {px pf py p : Pos} (hx : okVar N sc i x = true) (hg : okGl sc "isinstance" = true) (hy : okGl sc y = true) (hn : PG.cls[n]? = some y) :
    PE X (.Call (.Name "isinstance" pf) [.Name x px, .Name y py] [] p) (tE T X.K B W fun s => match s.env[i]? with
    | some (.xo c []) => if (PG.cls[c]?).isSome = true then .ok (.va (.bl (PG.sub c n))) s else .bad
    | _ => .bad) := by
  obtain ⟨g1, g2, g3⟩ := h.gl hy
  have ha : PA X [.Name x px, .Name y py] (tCons (tVar i) (tCons (tC (.ref (T.c n))) tNil)) := pa_cons (h.var hx) (pa_cons (pe_glob g1 (h.cls n y hn) rfl g2) pa_nil)
  refine ⟨fun pins s σ H Q I ⟨G, S, hR, q⟩ => ?_⟩
  revert q
  dsimp only
  split
  · rename_i c e
    intro q
    split at q
    · rename_i hc
      obtain ⟨xc, hc⟩ := Option.isSome_iff_exists.mp hc
      have z := hR.sl _ _ e
      cases z' : σ[i]? with
      | none => rw [z'] at z; cases z
      | some o =>
        rw [z'] at z
        cases z with
        | @xo a cls d _ _ e1 e2 =>
          obtain ⟨rfl, e3⟩ := e2
          have hd : d = none := by
            rcases e3 with ⟨_, e3⟩ | ⟨ne, _⟩
            · exact e3
            · exact absurd rfl ne
          subst hd
          exact (pe_callB (h.isE a c xc e1 hc) (h.gl hg).1 h.isi (by decide +kernel) ha).run pins s σ H Q I ⟨.ref a, z', .ref (T.c n), .ref (T.c n), PG.sub c n, rfl, fun u r => r, h.sub c n xc y hc hn, q G H (.bl _) (.refl _ _ _ _) hR (.va (.bl _))⟩
    · exact q.elim
  · exact fun q => q.elim
mutual
theorem hsnd : ∀ c : C, HSE PG T N k c
  | .var i x p => fun X sc B W h o => se_val rfl (sE_var (h.var o))
  | .cint n j p => fun X sc B W h o => se_val rfl (sE_val pe_int fun _ _ => .int n)
  | .cbl n j p => fun X sc B W h o => se_val rfl (sE_val pe_bl fun _ _ => .bl n)
  | .cnon j p => fun X sc B W h o => se_val rfl (sE_val pe_non fun _ _ => .non)
  | .cstr n j p => fun X sc B W h o => se_val rfl (sE_val pe_str fun _ _ => .str n)
  | .glo n x p => fun X sc B W h o => se_val rfl (by
      obtain ⟨o1, o2⟩ := a2 o
      obtain ⟨g1, g2, g3⟩ := h.gl o1
      cases e : PG.cst[n]? with
      | none => rw [e] at o2; cases o2
      | some y =>
        obtain ⟨y, d⟩ := y
        rw [e] at o2
        have o2 : x = y := of_decide_eq_true o2
        subst o2
        obtain ⟨u, v, m1, m2, m3⟩ := h.cst n x d e
        have z := sE_val (T := T) (B := B) (W := W) (pe_glob (pos := p) g1 m1 m2 g2) m3
        refine pe_imp z fun σ H Q ⟨G, s, hR, q⟩ => ⟨G, s, hR, ?_⟩
        have q : At T X.K B W (PR T X.K B) (match PG.cst[n]? with
          | some (_, d) => Oc.ok (R.va d) s
          | none => .bad) G s σ H Q := q
        rw [e] at q
        exact q)
  | .tup es j p => fun X sc B W h o => se_val rfl (sE_tup (hsndL es X sc B W h o).1)
  | .lst es p => fun X sc B W h o => se_val rfl (sE_lst (hsndL es X sc B W h o).1)
  | .bin op a b p => fun X sc B W h o => se_val rfl (sE_bin (hsnd a X sc B W h (a2 o).1).1 (hsnd b X sc B W h (a2 o).2).1)
  | .cmp op a b p => fun X sc B W h o => ⟨sE_cmp h.hu (mark_of op b) (hsnd a X sc B W h (a2 o).1).1 (hsnd b X sc B W h (a2 o).2).1, sT_cmp h.hu (mark_of op b) (hsnd a X sc B W h (a2 o).1).1 (hsnd b X sc B W h (a2 o).2).1⟩
  | .and_ a (.cons b bs) p => fun X sc B W h o => by
      obtain ⟨o1, o2, o3⟩ := a3 o
      have ha := hsnd a X sc B W h o1
      have hb := ((hsndL (.cons b bs) X sc B W h o2).2 (of_decide_eq_true o3) p).1
      exact ⟨sE_and ha.1 hb.1, (sW_and ha.2 hb.2).pt⟩
  | .and_ a .nil p => fun X sc B W h o => absurd (of_decide_eq_true (a3 o).2.2) (by decide)
  | .or_ a (.cons b bs) p => fun X sc B W h o => by
      obtain ⟨o1, o2, o3⟩ := a3 o
      have ha := hsnd a X sc B W h o1
      have hb := ((hsndL (.cons b bs) X sc B W h o2).2 (of_decide_eq_true o3) p).2
      exact ⟨sE_or ha.1 hb.1, (sW_or ha.2 hb.2).pt⟩
  | .or_ a .nil p => fun X sc B W h o => absurd (of_decide_eq_true (a3 o).2.2) (by decide)
  | .not_ a p => fun X sc B W h o => ⟨sE_not (hsnd a X sc B W h o).1, sT_not (hsnd a X sc B W h o).2⟩
  | .ix a b p => fun X sc B W h o => se_val rfl (sE_ix (hsnd a X sc B W h (a2 o).1).1 (hsnd b X sc B W h (a2 o).2).1 (plainIx_of b))
  | .isx i x px pf n y py p => fun X sc B W h o => se_val rfl (by
      obtain ⟨o1, o2, o3, o4⟩ := a4 o
      exact sE_isx h o1 o2 o3 (of_decide_eq_true o4))
  | .rvt .. | .fnv .. | .calv .. | .fz .. | .mv .. | .bty .. | .dct .. | .un .. | .chain .. | .ife .. | .call .. | .bi .. | .mt .. | .get2 .. | .dix .. | .din .. | .sl .. | .lc .. => fun X sc B W h o => absurd (show false = true from o) (by decide)
theorem hsndL : ∀ (cs : CL) (X : Cx) (sc : Scope) (B : Bs) (W : WX), HCxt X PG T N sc → hokL PG N sc cs = true → PA X cs.up (tL T X.K B W (evL PG (cal PG k) cs)) ∧
  (0 < cs.len → ∀ p, (PE X (.BoolOp .And cs.up p) (tE T X.K B W (evAnd PG (cal PG k) cs)) ∧ PW X (.BoolOp .And cs.up p) (tT T X.K B W fun s => asB (evAnd PG (cal PG k) cs s))) ∧
  (PE X (.BoolOp .Or cs.up p) (tE T X.K B W (evOr PG (cal PG k) cs)) ∧ PW X (.BoolOp .Or cs.up p) (tT T X.K B W fun s => asB (evOr PG (cal PG k) cs s))))
  | .nil => fun X sc B W h o => ⟨sL_nil, fun z => absurd z (by decide)⟩
  | .cons c .nil => fun X sc B W h o => by
      have hc := hsnd c X sc B W h (a2 o).1
      refine ⟨sL_cons hc.1 sL_nil (nostar c _ _), fun _ p => ⟨⟨pe_one hc.1, pw_and1 hc.2⟩, ⟨pe_one hc.1, pw_or1 hc.2⟩⟩⟩
  | .cons c (.cons d ds) => fun X sc B W h o => by
      have hc := hsnd c X sc B W h (a2 o).1
      have hd := hsndL (.cons d ds) X sc B W h (a2 o).2
      refine ⟨sL_cons hc.1 hd.1 (nostar c _ _), fun _ p => ?_⟩
      have r := hd.2 (by simp [CL.len]) p
      exact ⟨⟨sE_and hc.1 r.1.1, sW_and hc.2 r.1.2⟩, ⟨sE_or hc.1 r.2.1, sW_or hc.2 r.2.2⟩⟩
end
mutual
theorem hsndS : ∀ (c : CS) (X : Cx) (sc : Scope) (B : Bs) (W : WX), HCxt X PG T N sc → (X.fn = fun _ => true) → hokS PG N sc c = true → PS X c.up (tS T X.K B W (exs PG (cal PG k) c))
  | .set i x px c p => fun X sc B W h hf o => by
      obtain ⟨o1, o2, o3⟩ := a3 o
      have hx := h.nm hf o1
      exact sS_set h.nd hx.1 hx.2.1 (hsnd c X sc B W h o2).1 (swaps_of c _ _ _ (by simpa using o3)) hx.2.2
  | .seto i x px c p => fun X sc B W h hf o => by
      obtain ⟨o1, o2, o3⟩ := a3 o
      have hx := h.nm hf o1
      exact sS_seto h.nd hx.1 hx.2.1 (hsnd c X sc B W h o2).1 (swaps_of c _ _ _ (by simpa using o3)) hx.2.2
  | .app i x px pa c pc p => fun X sc B W h hf o => by
      obtain ⟨o1, o2, o3⟩ := a3 o
      exact sS_app (h.var o1) (hsnd c X sc B W h o2).1 (nostar c _ _) o3
  | .ifs t a b p => fun X sc B W h hf o => sS_if (hsnd t X sc B W h (a3 o).1).2 (hsndB a X sc B W h hf (a3 o).2.1) (hsndB b X sc B W h hf (a3 o).2.2)
  | .pass p => fun X sc B W h hf o => sS_pass
  | .rev .. | .unp .. | .expr .. | .ret .. | .for_ .. | .while_ .. | .wild .. | .raise_ .. | .try_ .. => fun X sc B W h hf o => absurd (show false = true from o) (by decide)
theorem hsndB : ∀ (c : CB) (X : Cx) (sc : Scope) (B : Bs) (W : WX), HCxt X PG T N sc → (X.fn = fun _ => true) → hokB PG N sc c = true → PSs X c.up (tS T X.K B W (exb PG (cal PG k) c))
  | .nil => fun X sc B W h hf o => sB_nil
  | .cons c cs => fun X sc B W h hf o => sB_cons (hsndS c X sc B W h hf (a2 o).1) (hsndB cs X sc B W h hf (a2 o).2)
end
end
end BB

namespace BB
open PySem PySem.Spec PyProof.Rows L2
/-! try -/
def Tab.wx (T : Tab) (o : Option (Addr × Value × Option Addr)) : Tab := ⟨T.f, T.c, o⟩
section
variable {T : Tab} {K : PySem.W.Frag} {o : Option (Addr × Value × Option Addr)} {G : Gh} {H : Hp} {B : Bs} {s : S} {σ : St}
theorem RV.wx {v : V} {d : D} (h : RV T K G H v d) : RV (T.wx o) K G H v d := by
  refine RV.rec (motive_1 := fun v d _ => RV (T.wx o) K G H v d) (motive_2 := fun vs ds _ => RVs (T.wx o) K G H vs ds) (motive_3 := fun vs ds _ => RKs (T.wx o) K G H vs ds) (motive_4 := fun vs ds _ => RTs (T.wx o) K G H vs ds)
    ?_ ?_ ?_ ?_ ?_ ?_ ?_ ?_ ?_ ?_ ?_ ?_ ?_ ?_ ?_ ?_ ?_ ?_ h
  · exact .non
  · exact fun b => .bl b
  · exact fun b => .int b
  · exact fun b => .str b
  · exact fun b => .ty b
  · exact fun b => .fn (T := T.wx o) b
  · exact fun q _ ih => .tup q ih
  · exact fun f q _ ih => .lst f q ih
  · exact fun f q _ ih => .dcK f q ih
  · exact fun f q _ ih => .dcT f q ih
  · exact fun q => .ref q
  · exact fun q _ ih => .scr q ih
  · exact .nil
  · exact fun _ _ i j => .cons i j
  · exact .nil
  · exact fun e _ _ i j => .cons e i j
  · exact .nil
  · exact fun e _ _ i j => .cons e i j
theorem RVs.wx : ∀ {vs : List V} {ds : List D}, RVs T K G H vs ds → RVs (T.wx o) K G H vs ds
  | _, _, .nil => .nil
  | _, _, .cons r t => .cons r.wx (RVs.wx t)
theorem RKs.wx : ∀ {vs : List (Key × V)} {ds : List (D × D)}, RKs T K G H vs ds → RKs (T.wx o) K G H vs ds
  | _, _, .nil => .nil
  | _, _, .cons e r t => .cons e r.wx (RKs.wx t)
theorem RTs.wx : ∀ {vs : List (List Key × V)} {ds : List (D × D)}, RTs T K G H vs ds → RTs (T.wx o) K G H vs ds
  | _, _, .nil => .nil
  | _, _, .cons e r t => .cons e r.wx (RTs.wx t)
theorem RFs.wx : ∀ {vs : List (Str × V)} {ds : List (Str × D)}, RFs T K G H vs ds → RFs (T.wx o) K G H vs ds
  | _, _, .nil => .nil
  | _, _, .cons r t => .cons r.wx (RFs.wx t)
theorem ExR.wx {n : Nat} {fs : List (Str × D)} {cls : Value} {d : Option Addr} (h : ExR T K n fs cls d G H) : ExR (T.wx o) K n fs cls d G H :=
  ⟨h.1, h.2.imp id fun ⟨ne, dd, fv, e, e2, r⟩ => ⟨ne, dd, fv, e, e2, r.wx⟩⟩
theorem BxR.wx {a : Addr} {x : Bx} (h : BxR T K G H a x) : BxR (T.wx o) K G H a x := by
  cases h with
  | ls e q => exact .ls e q.wx
  | dcK e q => exact .dcK e q.wx
  | dcT e q => exact .dcT e q.wx
  | ins e q => exact .ins (T := T.wx o) e q.wx
theorem RelC.wx {st : Sto} (h : RelC T K G st H) : RelC (T.wx o) K G st H := ⟨h.len, fun i x a e1 e2 => (h.bx i x a e1 e2).wx, h.nd, h.ioF, h.Fd⟩
theorem SlotR.wx {u : Option (Option V)} {x : Slot} (h : SlotR T K G H u x) (n : ∀ c fs, x ≠ .xo c fs) : SlotR (T.wx o) K G H u x := by
  cases h with
  | no => exact .no _
  | va q => exact .va q.wx
  | ol e q => exact .ol e q.wx
  | odK e q => exact .odK e q.wx
  | odT e q => exact .odT e q.wx
  | xo e q => exact absurd rfl (n _ _)
theorem Rel.wx (h : Rel T K B G s σ H) (n : ∀ (i : Nat) (c : Nat) (fs : List (Str × D)), s.env[i]? ≠ some (.xo c fs)) : Rel (T.wx o) K B G s σ H :=
  ⟨h.len, fun i x e => (h.sl i x e).wx fun c fs z => n i c fs (z ▸ e), h.own1, h.own2, h.c.wx, h.b⟩
theorem Rel.nox (h : Rel T K B G s σ H) (hx : T.x = none) : ∀ (i : Nat) (c : Nat) (fs : List (Str × D)), s.env[i]? ≠ some (.xo c fs) := fun i c fs e => by
  have z := h.sl i _ e
  cases q : σ[i]? with
  | none => rw [q] at z; cases z
  | some u => rw [q] at z; cases z with | xo e1 _ => rw [hx] at e1; cases e1
theorem noXo_of {l : List Slot} (h : noXo l = true) : ∀ (i : Nat) (c : Nat) (fs : List (Str × D)), l[i]? ≠ some (.xo c fs) := fun i c fs e => by
  have := List.all_eq_true.mp h _ (List.mem_of_getElem? e)
  cases this
theorem own_setn {i j : Nat} {a : Addr} (h : Own (setE s i .no) (σ.set i none) j a) : Own s σ j a ∧ i ≠ j := by
  obtain ⟨⟨x, e, ho⟩, e2⟩ := h
  by_cases hij : i = j
  · subst hij
    rw [setE_get] at e
    split at e
    · split at e
      · injection e with e; subst e; cases ho
      · cases e
    · rename_i z; exact absurd rfl z
  · rw [List.getElem?_set_ne hij] at e2
    rw [setE_get] at e
    split at e
    · rename_i z; exact absurd z hij
    · exact ⟨⟨⟨x, e, ho⟩, e2⟩, hij⟩
theorem Rel.cleared {i : Nat} (hR : Rel T K B G s σ H) : Rel T K B G (setE s i .no) (σ.set i none) H := by
  refine ⟨by show (s.env.set i _).length = _; rw [List.length_set, List.length_set]; exact hR.len, fun j y e => ?_, fun a ⟨j, h⟩ => hR.own1 a ⟨j, (own_setn h).1⟩, fun j l a h1 h2 => hR.own2 j l a (own_setn h1).1 (own_setn h2).1, hR.c, hR.b⟩
  rw [setE_get] at e
  split at e
  · split at e
    · injection e with e; subst e; exact .no _
    · cases e
  · rename_i hij
    rw [List.getElem?_set_ne hij]
    exact hR.sl j y e
end
section
variable {PG : Prog} {nm : Nat → Str} {T : Tab} {N : List Str} {k : Nat} {X : Cx} {sc : Scope} {B : Bs} {W : WX}
/-- what holds in the suite behind a catch -/
theorem hcx (h : Cxt X PG nm T N sc k) {a : Addr} {oe : Obj} {cls : Value} {d : Option Addr} {pn : List (Addr × Obj)} (hz : Zc cls d oe) (hf : ∃ vs, oe.data = .fields vs) : HCxt (X.suite a ((a, oe) :: pn)) PG (T.wx (some (a, cls, d))) N sc where
  N := h.N
  sc := h.sc
  nd := h.nd
  hu := h.hu
  cst := fun n x dd e => let ⟨u, v, m1, m2, m3⟩ := h.mg.cst n x dd e; ⟨u, v, m1, m2, fun G H => (m3 G H).wx⟩
  cls := fun n x e => (h.mg.cls n x e).1
  sub := fun n m x y e1 e2 => (h.mg.sub n m x y e1 e2).2
  isi := h.mg.bi .isi
  isE := fun a' c x e hc => by
    have e : some (a, cls, d) = some (a', Value.ref (T.c c), none) := e
    cases e
    exact call_isE (h.mg.cls c x hc).2.ex hz hf
def suF (PG : Prog) (cal : Nat → List D → Sto → CR) (c : CS) (su : CB) (s : S) : Fl := match exs PG cal c s with
  | .nx s1 => exb PG cal su s1
  | f => f
def hdl (T : Tab) (K : PySem.W.Frag) (B : Bs) (PG : Prog) (cal : Nat → List D → Sto → CR) : CH → List (Value × (Addr → Value → Option Addr → TS))
  | .cons n _ _ c su _ r => (.ref (T.c n), fun a cls d => tS (T.wx (some (a, cls, d))) K B W0 (suF PG cal c su)) :: hdl T K B PG cal r
  | _ => []
theorem hds_ok (h : Cxt X PG nm T N sc k) (hf : X.fn = fun _ => true) : ∀ hs : CH, hs.plain = true → okH PG N sc hs = true → HdsOk X hs.up (hdl T X.K B PG (cal PG k) hs)
  | .nil, _, _ => .nil
  | .cons n x px c su p r, hp, o => by
    obtain ⟨o1, o2, o3, o4, o5⟩ := a5 o
    obtain ⟨g1, g2, g3⟩ := gl_of h o1
    exact .cons ⟨g1, g2, .inl (h.mg.cls n x (of_decide_eq_true o2)).1⟩ (fun a oe cls d pn hz hv => sB_cons (hsndS c _ sc B W0 (hcx h hz hv) hf o3) (hsndB su _ sc B W0 (hcx h hz hv) hf o4)) (hds_ok h hf r hp o5)
  | .as_ .., hp, _ => Bool.noConfusion hp
theorem suite_at {De : Ends} {K : PySem.W.Frag} {f : S → Fl} {s : S} {σ : St} {G : Gh} {H : Hp} (hx : T.x = none) (hR : Rel T K B G s σ H) (o : Option (Addr × Value × Option Addr)) (q : FAt T K B W (aftS (f s)) G H De) : tS (T.wx o) K B W0 f De σ H := by
  refine ⟨G, s, hR.wx (hR.nox hx), ?_⟩
  revert q
  cases f s with
  | nx s1 =>
    show FAt T K B W (if noXo s1.env = true then .nx s1 else .bad) G H De → _
    split
    · rename_i hn
      exact fun q G' σ' H' P R => q G' σ' H' P (show Rel ((T.wx o).wx T.x) K B G' s1 σ' H' from R.wx (noXo_of hn))
    · exact fun q => q.elim
  | bk s1 => exact fun q => q.elim
  | ct s1 => exact fun q => q.elim
  | rt r s1 => exact fun q => q.elim
  | ex n fs s1 => exact fun q => q.elim
  | bad => exact fun q => q.elim
theorem many_at (h : Cxt X PG nm T N sc k) {De : Ends} : ∀ (hs : CH), hs.plain = true → okH PG N sc hs = true → ∀ {c : Nat} {fs : List (Str × D)} {s : S} {σ : St} {G : Gh} {H : Hp} {cls : Value} {d : Option Addr}, Rel T X.K B G s σ H → ExR T X.K c fs cls d G H →
    FAt T X.K B W (exh PG (cal PG k) hs c fs s) G H De → wMany X.K W De (hdl T X.K B PG (cal PG k) hs) cls d σ H
  | .nil, _, _, c, fs, s, σ, G, H, cls, d, R, x, q => q G σ H cls d (.refl _ _) R x
  | .cons n y px c1 su p r, hp, o, c, fs, s, σ, G, H, cls, d, R, x, q => by
    obtain ⟨o1, o2, o3, o4, o5⟩ := a5 o
    have q : FAt T X.K B W (if (PG.cls[c]?).isSome = true then (if PG.sub c n = true then aftS (suF PG (cal PG k) c1 su s) else exh PG (cal PG k) r c fs s) else .bad) G H De := q
    split at q
    · rename_i hc
      obtain ⟨xc, hc⟩ := Option.isSome_iff_exists.mp hc
      have m := (h.mg.sub c n xc y hc (of_decide_eq_true o2)).1
      refine ⟨PG.sub c n, by rw [x.1]; exact m, fun hb a ha => ?_, fun hb => ?_⟩
      · rw [if_pos hb] at q
        exact suite_at h.nx R _ q
      · rw [if_neg (by rw [hb]; decide)] at q
        exact many_at h r hp o5 R x q
    · exact q.elim
  | .as_ .., hp, _, _, _, _, _, _, _, _, _, _, _, _ => Bool.noConfusion hp
theorem as_at (h : Cxt X PG nm T N sc k) {De : Ends} {n i c : Nat} {y y2 : Str} {px p : Pos} {c1 : CS} {su : CB} {fs : List (Str × D)} {s : S} {σ : St} {G : Gh} {H : Hp} {cls : Value} {d : Option Addr} (hn : PG.cls[n]? = some y) (R : Rel T X.K B G s σ H) (x : ExR T X.K c fs cls d G H)
    (q : FAt T X.K B W (exh PG (cal PG k) (.as_ n y px i y2 c1 su p) c fs s) G H De) :
    wAs X.K (.ref (T.c n)) i (fun a cls d => tS (T.wx (some (a, cls, d))) X.K B W0 (suF PG (cal PG k) c1 su)) W De cls d σ H := by
  have q : FAt T X.K B W (if (PG.cls[c]?).isSome = true then (if PG.sub c n = true then aftA i (suF PG (cal PG k) c1 su (setE s i (.xo c fs))) else .ex c fs s) else .bad) G H De := q
  split at q
  · rename_i hc
    obtain ⟨xc, hc⟩ := Option.isSome_iff_exists.mp hc
    have m := (h.mg.sub c n xc y hc hn).1
    refine ⟨PG.sub c n, by rw [x.1]; exact m, fun hb a ha => ?_, fun hb => ?_⟩
    · rw [if_pos hb] at q
      refine ⟨G, setE s i (.xo c fs), (R.wx (R.nox h.nx)).stored (v := .ref a) (.xo rfl x.wx) (fun z => Bool.noConfusion z), ?_⟩
      revert q
      cases suF PG (cal PG k) c1 su (setE s i (.xo c fs)) with
      | nx s1 =>
        show FAt T X.K B W (if noXo (s1.env.set i .no) = true then .nx (setE s1 i .no) else .bad) G H De → _
        split
        · rename_i hn
          exact fun q G' σ' H' P R => q G' (σ'.set i none) H' P (show Rel ((T.wx (some (a, cls, d))).wx T.x) X.K B G' (setE s1 i .no) (σ'.set i none) H' from R.cleared.wx (noXo_of hn))
        · exact fun q => q.elim
      | bk s1 => exact fun q => q.elim
      | ct s1 => exact fun q => q.elim
      | rt r s1 => exact fun q => q.elim
      | ex n fs s1 => exact fun q => q.elim
      | bad => exact fun q => q.elim
    · rw [if_neg (by rw [hb]; decide)] at q
      exact q G σ H cls d (.refl _ _) R x
  · exact q.elim
/-- a try -/
theorem sS_try (h : Cxt X PG nm T N sc k) (hf : X.fn = fun _ => true) (st : X.stack = X.env :: X.outer ∧ X.env.frame = some X.env.locals) (tk : L2.Takes X W) {b : CB} {hs : CH} {p : Pos} (hp : hs.ok = true) (o : okH PG N sc hs = true)
    (hb : ∀ (W : WX) (pn : List (Addr × Obj)) (xe : Value → Shared → Prop), L2.Takes (X.tr pn xe) W → PassesOwn (model X.prog X.w) X.A X.env xe → PSs (X.tr pn xe) b.up (tS T X.K B W (exb PG (cal PG k) b))) :
    PS X (.Try b.up hs.up [] [] p) (tS T X.K B W (exs PG (cal PG k) (.try_ b hs p))) := by
  cases hs with
  | nil => exact Bool.noConfusion hp
  | cons n x px c su q r =>
    refine ps_imp (ps_try_many st.1 st.2 tk hb (hds_ok (B := B) h hf (.cons n x px c su q r) hp o)) fun De σ H ⟨G, s, hR, z⟩ => ⟨G, s, hR, ?_⟩
    have z : FAt T X.K B W (match exb PG (cal PG k) b s with
      | .ex c' fs s1 => exh PG (cal PG k) (.cons n x px c su q r) c' fs s1
      | f => f) G H De := z
    revert z
    cases exb PG (cal PG k) b s with
    | ex c' fs s1 => exact fun z G' σ' H' cls d P R e => many_at h (.cons n x px c su q r) hp o R e (z.mono P)
    | nx s1 => exact fun z => z
    | bk s1 => exact fun z => z
    | ct s1 => exact fun z => z
    | rt r s1 => exact fun z => z
    | bad => exact fun z => z
  | as_ n x px i y c su q =>
    obtain ⟨o1, o2, o3, o4, o5⟩ := a5 o
    obtain ⟨g1, g2, g3⟩ := gl_of h o1
    obtain ⟨o5, o6⟩ := a2 o5
    have hk : X.env.kindOf y = some .local := by
      show X.env.scope.names.lookup y = _
      rw [h.sc]; exact kd_of o6
    refine ps_imp (ps_try_as (i := i) (tb := fun W => tS T X.K B W (exb PG (cal PG k) b)) (ts := fun a cls d => tS (T.wx (some (a, cls, d))) X.K B W0 (suF PG (cal PG k) c su)) st.1 st.2 h.nd (by rw [h.N]; exact of_decide_eq_true o5) hk ⟨g1, g2, .inl (h.mg.cls n x (of_decide_eq_true o2)).1⟩ tk hb
      (fun a oe cls d pn hz hv => sB_cons (hsndS c _ sc B W0 (hcx h hz hv) hf o3) (hsndB su _ sc B W0 (hcx h hz hv) hf o4))) fun De σ H ⟨G, s, hR, z⟩ => ⟨G, s, hR, ?_⟩
    have z : FAt T X.K B W (match exb PG (cal PG k) b s with
      | .ex c' fs s1 => exh PG (cal PG k) (.as_ n x px i y c su q) c' fs s1
      | f => f) G H De := z
    revert z
    cases exb PG (cal PG k) b s with
    | ex c' fs s1 => exact fun z G' σ' H' cls d P R e => as_at h (of_decide_eq_true o2) R e (z.mono P)
    | nx s1 => exact fun z => z
    | bk s1 => exact fun z => z
    | ct s1 => exact fun z => z
    | rt r s1 => exact fun z => z
    | bad => exact fun z => z
end
end BB

namespace BB
open PySem PySem.Spec PyProof.Rows L2
section
variable {PG : Prog} {nm : Nat → Str} {T : Tab} {N : List Str} {k : Nat}
theorem swapsL_of (elt : C) (tg : Tg) (it : CI) (ifs : CL) (scope : Scope) (own : List (Str × Nat)) (q : Pos) (x : Str) (px : Pos) (l : Nat) (env : Env) (h1 : env.scope.kind = .function) (h2 : env.scope.names.lookup x = some .local) (h3 : (px.line == q.line) = true)
    (h4 : (!(scope.names.any fun (n, k) => n == x && (k == .local || k == .cell))) = true) : swapsWith (C.lc elt tg it ifs scope own q).up (some (.Name x px)) l env = pure true := by
  have e1 : (env.blockKind == ScopeKind.function) = true := by unfold Env.blockKind; rw [h1]; rfl
  have e2 : (env.kindOf x == some NameKind.local) = true := by
    show (env.scope.names.lookup x == some NameKind.local) = true
    rw [h2]; rfl
  show pure (env.blockKind == ScopeKind.function && env.kindOf x == some NameKind.local && px.line == q.line && !(scope.names.any fun (n, k) => n == x && (k == .local || k == .cell))) = _
  rw [e1, e2, h3, h4]; rfl
mutual
theorem sndS : ∀ (c : CS) (X : Cx) (sc : Scope) (B : Bs) (W : WX), Cxt X PG nm T N sc k → (X.fn = fun _ => true) → X.env.scope.kind = .function → (X.stack = X.env :: X.outer ∧ X.env.frame = some X.env.locals) → L2.Takes X W → PassesOwn (model X.prog X.w) X.A X.env X.xe → okS PG nm N sc c = true → PS X c.up (tS T X.K B W (exs PG (cal PG k) c))
  | .set i x px c p => fun X sc B W h hf hk st tk hp o => by
      obtain ⟨o1, o2, o3⟩ := a3 o
      have hx := nm_of h (blk := false) (fun _ => hf) o1
      have hc := (snd c X sc false B W h tk o2).1
      cases hl : isLc c with
      | false => exact sS_set h.nd hx.1 hx.2.1 hc (swaps_of c _ _ _ hl) hx.2.2
      | true =>
        cases c <;> first | (cases hl; done) | skip
        case lc elt tg it ifs scope own q =>
          rw [hl] at o3
          obtain ⟨o4, o5⟩ := a2 (show (kd sc x .local && ((px.line == q.line) && !(scope.names.any fun (n, k) => n == x && (k == .local || k == .cell)))) = true from o3)
          obtain ⟨o5, o6⟩ := a2 o5
          have hloc : X.env.scope.names.lookup x = some .local := by rw [h.sc]; exact kd_of o4
          obtain ⟨oo, o7⟩ := a2 (show (okI PG nm N sc false tg it && blkC N sc scope own && okTg N (relS scope sc) true tg && (tgIx tg).all (fun i => decide (i ∈ own.map (·.2))) && okL PG nm N (relS scope sc) true ifs && okC PG nm N (relS scope sc) true elt && decide (ifs.len ≤ 1)) = true from o2)
          obtain ⟨oo, o8⟩ := a2 oo
          obtain ⟨p1, p2, p3, p4, p5⟩ := a5 oo
          have ok : BlkOk X.N X.env.scope scope own := by rw [h.N, h.sc]; exact blkOk_by p2
          have hpg : ∀ (s : Shared) (H : Hp) (C : Addr) (cl : List (Str × Addr)) (fp : List Addr), L2.PG (X.blk s H scope (compEnvC scope cl C X.env) fp) tg.up (tTg T X.K tg) := fun s H C cl fp =>
            pg_tg (X := X.blk s H scope (compEnvC scope cl C X.env) fp) (T := T) h.calm h.nd (tg_of (h.blk s H scope C cl fp) (fun z => Bool.noConfusion z) p3)
          have ht : ∀ (s : Shared) (H : Hp) (C : Addr) (cl : List (Str × Addr)) (fp : List Addr), PTs (X.blk s H scope (compEnvC scope cl C X.env) fp) ifs.up (tT T X.K B W0 (evIfs PG (cal PG k) ifs)) := fun s H C cl fp =>
            (sndL ifs (X.blk s H scope (compEnvC scope cl C X.env) fp) (relS scope sc) true B W0 (h.blk s H scope C cl fp) takes0 p5).2.1 (of_decide_eq_true o7)
          have he : ∀ (s : Shared) (H : Hp) (C : Addr) (cl : List (Str × Addr)) (fp : List Addr), PE (X.blk s H scope (compEnvC scope cl C X.env) fp) elt.up (tE T X.K B W0 (ev PG (cal PG k) elt)) := fun s H C cl fp =>
            (snd elt (X.blk s H scope (compEnvC scope cl C X.env) fp) (relS scope sc) true B W0 (h.blk s H scope C cl fp) takes0 o8).1
          have z := ps_setLc (i := i) (py := px) (spos := p) h.calm h.nd hx.1 hloc (swapsL_of elt tg it ifs scope own q x px p.line X.env hk hloc o5 o6) (sndI it X sc false B W tg h tk p1) ok hpg ht he (fold_of it _)
          refine ps_imp z fun D σ H ⟨G, s, hR, q1⟩ => ?_
          refine (lcRead elt tg it ifs scope own q X sc false B W h tk o2 (sndI it) (sndL ifs) (snd elt)).2 σ H _ ⟨G, s, hR, f_bind (P := PR T X.K B) q1 (.refl _ _) fun r s1 G1 H1 v st p1 R1 r1 q1 => ?_⟩
          split at q1
          · rename_i d hk
            obtain ⟨G2, st2, R2, rv, P2⟩ := keep1p R1 st r1 hk
            exact q1 _ _ _ P2 (R2.stored (.va rv) fun z => by cases z)
          · exact q1.elim
  | .seto i x px c p => fun X sc B W h hf hk st tk hp o => by
      obtain ⟨o1, o2, o3⟩ := a3 o
      have hx := nm_of h (blk := false) (fun _ => hf) o1
      exact sS_seto h.nd hx.1 hx.2.1 (snd c X sc false B W h tk o2).1 (swaps_of c _ _ _ (by simpa using o3)) hx.2.2
  | .unp l j pt c p => fun X sc B W h hf hk st tk hp o => by
      obtain ⟨o1, o2, o3⟩ := a3 o
      exact sS_unp h.calm h.nd (nms_of h (blk := false) (fun _ => hf) o1) (snd c X sc false B W h tk o2).1 (swapsT_of c l j pt _ _) (swapped_of c l j pt _ (by simpa using o3))
  | .app i x px pa c pc p => fun X sc B W h hf hk st tk hp o => by
      obtain ⟨o1, o2, o3⟩ := a3 o
      exact sS_app (var_of h o1) (snd c X sc false B W h tk o2).1 (nostar c _ _) o3
  | .rev i x px pa pc p => fun X sc B W h hf hk st tk hp o => sS_rev (var_of h (a2 o).1) (a2 o).2
  | .expr c p => fun X sc B W h hf hk st tk hp o => sS_expr (snd c X sc false B W h tk (a2 o).1).1 (swaps_of c _ _ _ (by simpa using (a2 o).2))
  | .ret c p => fun X sc B W h hf hk st tk hp o => sS_ret (snd c X sc false B W h tk o).1
  | .ifs t a b p => fun X sc B W h hf hk st tk hp o => sS_if (snd t X sc false B W h tk (a3 o).1).2 (sndB a X sc B W h hf hk st tk hp (a3 o).2.1) (sndB b X sc B W h hf hk st tk hp (a3 o).2.2)
  | .for_ tg it b p => fun X sc B W h hf hk st tk hp o => sS_for hp h.calm h.nd (sndI it X sc false B W tg h tk (a3 o).2.1) (tg_of h (fun _ => hf) (a3 o).1) (sndB b X sc B W h hf hk st tk hp (a3 o).2.2) (fold_of it _)
  | .while_ t b p => fun X sc B W h hf hk st tk hp o => sS_while hp (snd t X sc false B W h tk (a2 o).1).2 (sndB b X sc B W h hf hk st tk hp (a2 o).2)
  | .pass p => fun X sc B W h hf hk st tk hp o => sS_pass
  | .raise_ n x px m j pm pc p => fun X sc B W h hf hk st tk hp o => by
      obtain ⟨o1, o2⟩ := a2 o
      obtain ⟨g1, g2, g3⟩ := gl_of h o1
      obtain ⟨m1, c1⟩ := h.mg.cls n x (of_decide_eq_true o2)
      exact ps_imp (ps_raise h.calm tk (pmk_own PySem.F.excBase_ValueError c1.q m1 c1.kp (raises_own c1.sb c1.ty) g1 g2)) fun D σ H ⟨G, s, hR, q⟩ => q G σ H (.ref (T.c n)) none (.refl _ _) hR ⟨rfl, .inl ⟨rfl, rfl⟩⟩
  | .try_ b hs p => fun X sc B W h hf hk st tk hp o => by
      obtain ⟨o1, o2, o3⟩ := a3 o
      exact sS_try h hf st tk o2 o3 fun W pn xe tk hp => sndB b (X.tr pn xe) sc B W ⟨h.N, h.sc, h.calm, h.nd, h.room, ⟨h.F.fn⟩, ⟨h.mg.fn, h.mg.bi, h.mg.rng, h.mg.enu, h.mg.zip, h.mg.ty, h.mg.cst, h.mg.cls, h.mg.sub⟩, h.nx⟩ hf hk st tk hp o1
  | .wild s => fun X sc B W h hf hk st tk hp o => ⟨fun pins s σ H D I q => (show False from by obtain ⟨_, _, _, q⟩ := q; exact q).elim⟩
theorem sndB : ∀ (c : CB) (X : Cx) (sc : Scope) (B : Bs) (W : WX), Cxt X PG nm T N sc k → (X.fn = fun _ => true) → X.env.scope.kind = .function → (X.stack = X.env :: X.outer ∧ X.env.frame = some X.env.locals) → L2.Takes X W → PassesOwn (model X.prog X.w) X.A X.env X.xe → okB PG nm N sc c = true → PSs X c.up (tS T X.K B W (exb PG (cal PG k) c))
  | .nil => fun X sc B W h hf hk st tk hp o => sB_nil
  | .cons c cs => fun X sc B W h hf hk st tk hp o => sB_cons (sndS c X sc B W h hf hk st tk hp (a2 o).1) (sndB cs X sc B W h hf hk st tk hp (a2 o).2)
end
end
/-! defs -/
/-- a def of the text and its word -/
def FnE (K : PySem.W.Frag) (PG : Prog) (nm : Nat → Str) (T : Tab) (n : Nat) (f : FnD) : Prop :=
  ∃ (x qual : Str) (st : Stmt) (fd : FuncData) (N ps : List Str), Fun K x qual st (T.f n) fd ∧ FnScope N ps (defScope st) ∧ defBody st = f.body.up ∧ okB PG nm N (defScope st) f.body = true ∧ f.ps = ps.length ∧ f.ns = N.length ∧ L2.Binds K fd ps []
structure Mg0 (K : PySem.W.Frag) (mg : Str → Option Value) (PG : Prog) (nm : Nat → Str) (T : Tab) : Prop where
  fn : ∀ n : Nat, (PG.fns[n]?).isSome = true → mg (nm n) = some (.ref (T.f n))
  bi : ∀ b : Bi, mg b.name = none
  rng : mg "range" = none
  enu : mg "enumerate" = none
  zip : mg "zip" = none
  ty : ∀ n ∈ types, mg (Str.ofString n) = none
  cst : ∀ (n : Nat) (x : Str) (d : D), PG.cst[n]? = some (x, d) → ∃ u v, mg x = some u ∧ RelV v u ∧ ∀ G H, RV T K G H v d
  cls : ∀ (n : Nat) (x : Str), PG.cls[n]? = some x → mg x = some (.ref (T.c n)) ∧ ClsOk K (T.c n)
  sub : ∀ (n m : Nat) (x y : Str), PG.cls[n]? = some x → PG.cls[m]? = some y → PySem.W.exmOne K (.ref (T.c n)) (.ref (T.c m)) = some (PG.sub n m) ∧ PySem.W.kitOne K (.ref (T.c n)) (.ref (T.c m)) = some (PG.sub n m)
  nx : T.x = none
theorem get_lt {α : Type} {l : List α} {i : Nat} {x : α} (e : l[i]? = some x) : i < l.length := (List.getElem?_eq_some_iff.mp e).1
theorem rel_start {T : Tab} {K : PySem.W.Frag} {G : Gh} {H : Hp} {vs : List V} {ds : List D} {st : Sto} {N : List Str} (c : RelC T K G st H) (r : RVs T K G H vs ds) (hl : ds.length ≤ N.length) :
    Rel T K ⟨G, H⟩ G ⟨ds.map .va ++ List.replicate (N.length - ds.length) .no, st⟩ (L2.start N vs) H := by
  have key : ∀ (i : Nat) (x : BB.Slot), (ds.map BB.Slot.va ++ List.replicate (N.length - ds.length) BB.Slot.no)[i]? = some x → (x = .no ∨ ∃ d v, x = .va d ∧ RV T K G H v d ∧ (L2.start N vs)[i]? = some (some v)) := by
    intro i x e
    by_cases hi : i < ds.length
    · rw [List.getElem?_append_left (by simpa using hi), List.getElem?_map, List.getElem?_eq_getElem hi] at e
      cases e
      obtain ⟨v, h1, h2⟩ := r.get (List.getElem?_eq_getElem hi)
      refine .inr ⟨_, v, rfl, h2, ?_⟩
      unfold L2.start
      rw [List.getElem?_append_left (by rw [List.length_map]; exact get_lt h1), List.getElem?_map, h1]
      rfl
    · rw [List.getElem?_append_right (by simpa using hi), List.getElem?_replicate] at e
      split at e
      · cases e; exact .inl rfl
      · cases e
  have no : ∀ i a, ¬ Own ⟨ds.map .va ++ List.replicate (N.length - ds.length) .no, st⟩ (L2.start N vs) i a := fun i a ⟨⟨x, e, ho⟩, _⟩ => by
    rcases key i x e with rfl | ⟨d, v, rfl, _⟩ <;> cases ho
  refine ⟨?_, fun i x e => ?_, fun a ⟨i, h⟩ => absurd h (no i a), fun i j a h _ => absurd h (no i a), c, .refl _ _⟩
  · unfold L2.start
    have := r.length
    simp only [List.length_append, List.length_map, List.length_replicate]
    omega
  · rcases key i x e with rfl | ⟨d, v, rfl, h1, h2⟩
    · exact .no _
    · rw [h2]; exact .va h1
theorem fn_step {P : Program} {w : World} {K : PySem.W.Frag} {mg : Str → Option Value} {base : Heap} {PG : Prog} {nm : Nat → Str} {T : Tab} {k n : Nat} {f : FnD} (hm : Mg0 K mg PG nm T) (hn : PG.fns[n]? = some f)
    (ih : ∀ n f, PG.fns[n]? = some f → ∃ fd ps, ps.length = f.ps ∧ FnOk P w K mg base (L2.CX P w) k (T.f n) fd ps (spF T K PG k n) ∧ L2.Binds K fd ps [] ∧ PySem.W.keepIn K (.ref (T.f n)) = true)
    {x qual : Str} {st : Stmt} {fd : FuncData} {N ps : List Str} (F : Fun K x qual st (T.f n) fd) (S : FnScope N ps (defScope st)) (hb : defBody st = f.body.up) (ok : okB PG nm N (defScope st) f.body = true) (hp : f.ps = ps.length) (hN : f.ns = N.length) :
    FnOk P w K mg base (L2.CX P w) (k + 1) (T.f n) fd ps (spF T K PG (k + 1) n) := by
  refine F.okX S (fun vs H Q E h => ?_) (fun cdv A outer s H vs Q E hr h => ?_)
  · obtain ⟨G, ds, st', c, r, ⟨f', e, hl⟩, _⟩ := h
    rw [hn] at e; cases e
    rw [r.length, hl, hp]
  · obtain ⟨G, ds, st', c, r, ⟨f', e, hl⟩, q⟩ := h
    rw [hn] at e; cases e
    have hpl : ps.length ≤ N.length := by have := congrArg List.length S.pre; rw [List.length_take] at this; omega
    let X := cxOf (L2.CX P w) P w K mg base N qual (defScope st) (T.f n) cdv A outer s H E
    have CX : Cxt X PG nm T N (defScope st) k := ⟨rfl, rfl, rfl, S.nd, hr, ⟨ih⟩, ⟨hm.fn, hm.bi, hm.rng, hm.enu, hm.zip, hm.ty, hm.cst, hm.cls, hm.sub⟩, hm.nx⟩
    have tk : L2.Takes X (fun cls d _ H => E cls d H) := L2.takes_of rfl rfl rfl rfl
    have sb := sndB (PG := PG) (nm := nm) (T := T) (N := N) (k := k) f.body X (defScope st) ⟨G, H⟩ (fun cls d _ H => E cls d H) CX rfl S.kind ⟨rfl, rfl⟩ tk PassesOwn.leaving ok
    refine ⟨tS T K ⟨G, H⟩ (fun cls d _ H => E cls d H) (exb PG (cal PG k) f.body), by rw [hb]; exact sb, G, ⟨ds.map .va ++ List.replicate (N.length - ds.length) .no, st'⟩, rel_start c r (by rw [hl, hp]; exact hpl), ?_⟩
    have q : CAt T K (cal PG (k + 1) n ds st') G H Q E := q
    unfold cal at q
    rw [hn] at q
    dsimp only at q
    rw [if_pos hl] at q
    have eN : f.ns - f.ps = N.length - ds.length := by rw [hN, hl]
    rw [eN] at q
    revert q
    show CAt T K (outR (exb PG (cal PG k) f.body _)) G H Q E → FAt T K ⟨G, H⟩ (fun cls d _ H => E cls d H) (exb PG (cal PG k) f.body _) G H _
    cases exb PG (cal PG k) f.body ⟨ds.map .va ++ List.replicate (N.length - ds.length) .no, st'⟩ with
    | nx s' => exact fun q G' σ' H' _ R => q G' H' .non R.b R.c (.va .non)
    | rt r s' =>
      cases r with
      | own i => exact fun q => q.elim
      | va d => exact fun q G' σ' H' v _ R x => q G' H' v R.b R.c (by cases x with | va y => exact .va y)
      | fl l => exact fun q G' σ' H' v _ R x => q G' H' v R.b R.c (by cases x with | fl a b c d e => exact .fl a b c d e)
      | fd t l => exact fun q G' σ' H' v _ R x => q G' H' v R.b R.c (by cases x with
          | fdK a b c d e => exact .fdK a b c d e
          | fdT a b c d e => exact .fdT a b c d e)
    | bk s' => exact fun q => q.elim
    | ct s' => exact fun q => q.elim
    | ex m fs s' => exact fun q G' σ' H' cls d _ R x => q G' H' cls d R.b R.c x
    | bad => exact fun q => q
theorem all_ok {P : Program} {w : World} {K : PySem.W.Frag} {mg : Str → Option Value} {base : Heap} {PG : Prog} {nm : Nat → Str} {T : Tab} (hm : Mg0 K mg PG nm T) (hf : ∀ n f, PG.fns[n]? = some f → FnE K PG nm T n f) :
    ∀ k n f, PG.fns[n]? = some f → ∀ (x qual : Str) (st : Stmt) (fd : FuncData) (N ps : List Str), Fun K x qual st (T.f n) fd → FnScope N ps (defScope st) → defBody st = f.body.up → okB PG nm N (defScope st) f.body = true → f.ps = ps.length → f.ns = N.length → L2.Binds K fd ps [] →
      FnOk P w K mg base (L2.CX P w) k (T.f n) fd ps (spF T K PG k n)
  | 0, n, f, hn, x, qual, st, fd, N, ps, F, S, hb, ok, hp, hN, bd => by
    refine ⟨fun vs H Q E h => ?_, fun A outer s H args us vs Q E hr e0 hbd hv h => ?_⟩
    · obtain ⟨G, ds, st', c, r, ⟨f', e, hl⟩, _⟩ := h
      rw [hn] at e; cases e
      rw [r.length, hl, hp]
    · obtain ⟨G, ds, st', c, r, _, q⟩ := h
      exact q.elim
  | k + 1, n, f, hn, x, qual, st, fd, N, ps, F, S, hb, ok, hp, hN, bd =>
    fn_step hm hn (fun n f hn => by
      obtain ⟨x, qual, st, fd, N, ps, F, S, hb, ok, hp, hN, bd⟩ := hf n f hn
      exact ⟨fd, ps, hp.symm, all_ok hm hf k n f hn x qual st fd N ps F S hb ok hp hN bd, bd, F.kp⟩) F S hb ok hp hN
/-! the law -/
def spLaw (K : PySem.W.Frag) : Sp := fun vs H Q _ => ∃ (a : Addr) (ns : List Int), vs = [.ref a] ∧ SqL K H a (ns.map V.int) ∧ ns.length ≤ 63 ∧ ∀ H', Q (.bl true) H'
theorem rvs_ints {T : Tab} {K : PySem.W.Frag} {G : Gh} {H : Hp} : ∀ ns : List Int, RVs T K G H (ns.map V.int) (ns.map D.int)
  | [] => .nil
  | n :: ns => .cons (.int n) (rvs_ints ns)
theorem law_ok {P : Program} {w : World} {K : PySem.W.Frag} {mg : Str → Option Value} {base : Heap} {PG : Prog} {T : Tab} {k n : Nat} {fd : FuncData} {x : Str} (h : FnOk P w K mg base (L2.CX P w) k (T.f n) fd [x] (spF T K PG k n)) (hf : ∃ f, PG.fns[n]? = some f ∧ 1 = f.ps)
    (hl : ∀ ns : List Int, ns.length ≤ 63 → ∃ st, cal PG k n [.scr (ns.map .int)] [] = .ok (.va (.bl true)) st) : FnOk P w K mg base (L2.CX P w) k (T.f n) fd [x] (spLaw K) := by
  refine h.imp fun vs H Q E ⟨a, ns, e, hS, hn, q⟩ => ?_
  subst e
  obtain ⟨st, hc⟩ := hl ns hn
  refine ⟨⟨[], fun b => b = a ∧ H b ≠ none⟩, [.scr (ns.map .int)], [], ⟨rfl, fun i o b e => (by cases e), List.nodup_nil, fun b hb => (by cases hb), fun b hb => hb.2⟩, .cons (.scr ?_ (rvs_ints ns)) .nil, ?_, ?_⟩
  · rcases hS with hS | hS
    · refine .inl ⟨⟨rfl, ?_⟩, hS⟩
      rcases hS with hS | ⟨o, hS⟩ <;> rw [hS] <;> simp
    · exact .inr hS
  · exact hf
  · rw [hc]
    intro G' H' v _ _ r
    cases r with | va r => cases r with | bl => exact q H'
end BB

namespace BB
open PySem PySem.Spec PyProof.Rows L2
/-! words for runs -/
theorem eqW_ii (i j : Int) : eqW (.at (.int i)) (.at (.int j)) = some (decide (i = j)) := by
  show some (decide (V.int i = V.int j)) = _
  refine congrArg some ?_
  exact decide_eq_decide.mpr ⟨fun h => by injection h, fun h => by rw [h]⟩
theorem eqW_ss (i j : Str) : eqW (.at (.str i)) (.at (.str j)) = some (decide (i = j)) := by
  show some (decide (V.str i = V.str j)) = _
  refine congrArg some ?_
  exact decide_eq_decide.mpr ⟨fun h => by injection h, fun h => by rw [h]⟩
theorem eqW_bb (i j : Bool) : eqW (.at (.bl i)) (.at (.bl j)) = some (decide (i = j)) := by
  show some (decide (V.bl i = V.bl j)) = _
  refine congrArg some ?_
  exact decide_eq_decide.mpr ⟨fun h => by injection h, fun h => by rw [h]⟩
theorem mul_l {i j : Int} (h : -18446744073709551616 < i) (h2 : i < 18446744073709551616) : binV .Mult (.at (.int i)) (.at (.int j)) = some (.va (.int (i * j))) := by
  show (if CMul i j then _ else _) = _
  rw [if_pos (.inl ⟨h, h2⟩)]
theorem mul_r {i j : Int} (h : -18446744073709551616 < j) (h2 : j < 18446744073709551616) : binV .Mult (.at (.int i)) (.at (.int j)) = some (.va (.int (i * j))) := by
  show (if CMul i j then _ else _) = _
  rw [if_pos (.inr ⟨h, h2⟩)]
theorem mod_p {i j : Int} (h : 0 < j) : binV .Mod (.at (.int i)) (.at (.int j)) = some (.va (.int (i % j))) := if_pos h
theorem div_p {i j : Int} (h : 0 < j) (h2 : j < 1073741824) : binV .FloorDiv (.at (.int i)) (.at (.int j)) = some (.va (.int (i / j))) := if_pos ⟨h, h2⟩
theorem add_i {i j : Int} : binV .Add (.at (.int i)) (.at (.int j)) = some (.va (.int (i + j))) := rfl
theorem sub_i {i j : Int} : binV .Sub (.at (.int i)) (.at (.int j)) = some (.va (.int (i - j))) := rfl
theorem add_l {x y : List D} (h : x.length + y.length ≤ 16777216) : binV .Add (.ls x) (.ls y) = some (.fl (x ++ y)) := if_pos (by rw [sizeLine_eq]; exact h)
theorem add_t {x y : List D} (h : x.length + y.length ≤ 16777216) : binV .Add (.at (.tup x)) (.at (.tup y)) = some (.va (.tup (x ++ y))) := if_pos (by rw [sizeLine_eq]; exact h)
theorem add_s {x y : Str} (h : x.length + y.length ≤ 16777216) : binV .Add (.at (.str x)) (.at (.str y)) = some (.va (.str (x ++ y))) := if_pos (by rw [sizeLine_eq]; exact h)
theorem pow_i {i j : Int} (h : 0 ≤ j ∧ j ≤ 1000000) (h2 : -18446744073709551616 < i ∧ i < 18446744073709551616) : binV .Pow (.at (.int i)) (.at (.int j)) = some (.va (.int (i ^ j.toNat))) := if_pos ⟨h.1, h.2, by omega⟩
theorem lt_i {i j : Int} : cmpV .Lt (.at (.int i)) (.at (.int j)) = some (decide (i < j)) := rfl
theorem le_i {i j : Int} : cmpV .LtE (.at (.int i)) (.at (.int j)) = some (decide (i ≤ j)) := rfl
theorem gt_i {i j : Int} : cmpV .Gt (.at (.int i)) (.at (.int j)) = some (decide (j < i)) := rfl
theorem ge_i {i j : Int} : cmpV .GtE (.at (.int i)) (.at (.int j)) = some (decide (j ≤ i)) := rfl
theorem cmp_eq {u v : Vw} : cmpV .Eq u v = eqW u v := rfl
theorem cmp_ne {u v : Vw} : cmpV .NotEq u v = (eqW u v).map (!·) := rfl
theorem cmp_in {u v : Vw} : cmpV .In u v = inW u v := rfl
theorem cmp_nin {u v : Vw} : cmpV .NotIn u v = (inW u v).map (!·) := rfl
theorem cmp_is {u v : Vw} : cmpV .Is u v = isW u v := rfl
theorem cmp_isn {u v : Vw} : cmpV .IsNot u v = (isW u v).map (!·) := rfl
theorem set_e (env : List Slot) (st : Sto) (i : Nat) (x : Slot) : setE ⟨env, st⟩ i x = ⟨env.set i x, st⟩ := rfl
theorem bind_ok {α β : Type} (a : α) (s : S) (f : α → S → Oc β) : (Oc.ok a s).bind f = f a s := rfl
theorem fl_ok {α : Type} (a : α) (s : S) (f : α → S → Fl) : (Oc.ok a s).fl f = f a s := rfl
theorem asB_b (b : Bool) (s : S) : asB (.ok (.va (.bl b)) s) = .ok b s := rfl
theorem opt_s {α : Type} (a : α) (s : S) : opt (some a) s = .ok a s := rfl
theorem map_s {α β : Type} (a : α) (f : α → β) : Option.map f (some a) = some (f a) := rfl
theorem tup_ok {ds : List D} {s : S} (h : ds.length ≤ 16777216) : (if ds.length ≤ sizeLine then Oc.ok (R.va (.tup ds)) s else .bad) = .ok (.va (.tup ds)) s := if_pos (by rw [sizeLine_eq]; exact h)
theorem lst_ok {ds : List D} {s : S} (h : ds.length ≤ 16777216) : (if ds.length ≤ sizeLine then Oc.ok (R.fl ds) s else .bad) = .ok (.fl ds) s := if_pos (by rw [sizeLine_eq]; exact h)
/-! views -/
theorem view_int (s : S) (i : Int) : view s (.va (.int i)) = some (.at (.int i)) := rfl
theorem view_str (s : S) (i : Str) : view s (.va (.str i)) = some (.at (.str i)) := rfl
theorem view_bl (s : S) (i : Bool) : view s (.va (.bl i)) = some (.at (.bl i)) := rfl
theorem view_non (s : S) : view s (.va .non) = some (.at .non) := rfl
theorem view_tup (s : S) (l : List D) : view s (.va (.tup l)) = some (.at (.tup l)) := rfl
theorem view_lst (s : S) (l : List D) : view s (.va (.lst l)) = some (.ls l) := rfl
theorem view_fl (s : S) (l : List D) : view s (.fl l) = some (.ls l) := rfl
theorem view_scr (s : S) (l : List D) : view s (.va (.scr l)) = some (.sc l) := rfl
theorem view_ty (s : S) (n : String) : view s (.va (.ty n)) = some (.at (.ty n)) := rfl
theorem view_fd (s : S) (t : Bool) (l : List (D × D)) : view s (.fd t l) = some (.dc t l) := rfl
theorem view_dct (s : S) (t : Bool) (l : List (D × D)) : view s (.va (.dct t l)) = some (.dc t l) := rfl
/-- a for that goes through -/
theorem for_inv {b : D → S → Fl} (P : Nat → S → Prop) : ∀ (l : List D) (s : S) (n : Nat), P n s → (∀ i d s, l[i]? = some d → P (n + i) s → ∃ s', (b d s = .nx s' ∨ b d s = .ct s') ∧ P (n + i + 1) s') → ∃ s', forTurns b l s = .nx s' ∧ P (n + l.length) s'
  | [], s, n, h, _ => ⟨s, rfl, h⟩
  | d :: ds, s, n, h, st => by
    obtain ⟨s1, e1, p1⟩ := st 0 d s rfl h
    obtain ⟨s2, e2, p2⟩ := for_inv P ds s1 (n + 1) p1 fun i d' s' e p => by
      have := st (i + 1) d' s' e (by rw [show n + (i + 1) = n + 1 + i by omega]; exact p)
      rw [show n + (i + 1) + 1 = n + 1 + i + 1 by omega] at this
      exact this
    refine ⟨s2, ?_, by rw [List.length_cons, show n + (ds.length + 1) = n + 1 + ds.length by omega]; exact p2⟩
    unfold forTurns
    rcases e1 with e1 | e1 <;> rw [e1] <;> exact e2
theorem cal_s {PG : Prog} {k n : Nat} {ds : List D} {st : Sto} {f : FnD} (h : PG.fns[n]? = some f) (h2 : ds.length = f.ps) : cal PG (k + 1) n ds st = outR (exb PG (cal PG k) f.body ⟨ds.map .va ++ List.replicate (f.ns - f.ps) .no, st⟩) := by
  unfold cal
  rw [h]
  exact if_pos h2
/-- the end of a law's row -/
theorem walk {l : PySem.W.OpenLaw} {k : Nat} {q : Program} {loose : List Str} {XP : (Str → Option Value) → Heap → Prop} {YP : World → Heap → Prop} {d : DefRec} {K : Params → PySem.W.Frag} (hn : l.most = some 63) (hdf : d.params.defaults = []) (hr : Room k callerA)
    (hY : ∀ (w : World) (h : Heap), YP w h → (K w.params).In h)
    (F : ∀ (w : World) (mg : Str → Option Value) (fa : Addr) (h : Heap), (K w.params).In h → h.Ns mainGlobals mg → mg d.name = some (.ref fa) →
      ∃ fd : FuncData, (∀ (s : Shared) (u : Value), BindsTo s fd ⟨[u], []⟩ [("_law_script", u)]) ∧ ∀ base : Heap, (K w.params).In base → base.Ns mainGlobals mg → FnOk l.prog w (K w.params) mg base (L2.CX l.prog w) k fa fd ["_law_script"] (spLaw (K w.params))) :
    PySem.W.WalkO q loose XP YP l.row.toRowW d [] (fun f vs => PySem.call f vs) :=
  L2.walk_of (n := 63) (k := k) (x := "_law_script") (CX := fun w => L2.CX l.prog w) (sp := fun w => spLaw (K w.params)) hn (by decide) hdf hr hY F (fun _ _ a ns hl _ hS => ⟨a, ns, rfl, hS, hl, fun _ => rfl⟩) fun w H s e s' h => by obtain ⟨_, _, _, _, _, _, _, _, _, _, _, _, z⟩ := h; exact z
end BB

namespace BB
open PySem PySem.Spec PyProof.Rows L2
/-- the signs of a text -/
def cs (x : Str) : List Nat := x.cps.toList
/-! runs, step by step: no continuation is opened ahead of its turn -/
section
variable (G : Prog) (cal : Nat → List D → Sto → CR)
/-- pure words of a step -/
def b2 (o : Operator) (u v : Option Vw) (s : S) : Oc R := match u, v with
  | some u, some v => opt (binV o u v) s
  | _, _ => .bad
def c2 (o : CmpOp) (u v : Option Vw) (s : S) : Oc R := match u, v with
  | some u, some v => opt ((cmpV o u v).map fun t => .va (.bl t)) s
  | _, _ => .bad
def x2 (u v : Option Vw) (s : S) : Oc R := match u, v with
  | some u, some v => opt ((ixV u v).map .va) s
  | _, _ => .bad
def tup1 (r : Option (List D)) (s : S) : Oc R := match r with
  | some ds => if ds.length ≤ sizeLine then .ok (.va (.tup ds)) s else .bad
  | none => .bad
def lst1 (r : Option (List D)) (s : S) : Oc R := match r with
  | some ds => if ds.length ≤ sizeLine then .ok (.fl ds) s else .bad
  | none => .bad
def dct1 (r : Option (List (D × D))) (s : S) : Oc R := match r with
  | some q => if 0 < q.length ∧ q.length ≤ 15 then opt ((dputs [] q).map (.fd false)) s else .bad
  | none => .bad
def kTup (rs : List R) (s : S) : Oc R := tup1 (keepRs rs) s
def kLst (rs : List R) (s : S) : Oc R := lst1 (keepRs rs) s
def kDct (rs : List (R × R)) (s : S) : Oc R := dct1 (keepPs rs) s
def kBin1 (o : Operator) (b : C) (x : R) (s : S) : Oc R := (ev G cal b s).bind fun y s => b2 o (view s x) (view s y) s
def kBin2 (o : Operator) (x y : R) (s : S) : Oc R := b2 o (view s x) (view s y) s
def kCmp1 (o : CmpOp) (b : C) (x : R) (s : S) : Oc R := (ev G cal b s).bind fun y s => c2 o (view s x) (view s y) s
def kCmp2 (o : CmpOp) (x y : R) (s : S) : Oc R := c2 o (view s x) (view s y) s
def kIx1 (b : C) (x : R) (s : S) : Oc R := (ev G cal b s).bind fun y s => x2 (view s x) (view s y) s
def kIx2 (x y : R) (s : S) : Oc R := x2 (view s x) (view s y) s
def kCons1 (cs : CL) (r : R) (s : S) : Oc (List R) := (evL G cal cs s).bind fun rs s => .ok (r :: rs) s
def kCons2 (r : R) (rs : List R) (s : S) : Oc (List R) := .ok (r :: rs) s
def un1 (o : UnaryOp) (u : Option Vw) (s : S) : Oc R := match u with
  | some u => opt (unV o u) s
  | none => .bad
def kUn (o : UnaryOp) (x : R) (s : S) : Oc R := un1 o (view s x) s
def asBk (r : R) (s : S) : Oc Bool := match r with
  | .va (.bl b) => .ok b s
  | _ => .bad
def kAnd (es : CL) (t : Bool) (s : S) : Oc R := if t = true then evAnd G cal es s else .ok (.va (.bl false)) s
def kOr (es : CL) (t : Bool) (s : S) : Oc R := if t = true then .ok (.va (.bl true)) s else evOr G cal es s
def kNot (t : Bool) (s : S) : Oc R := .ok (.va (.bl (!t))) s
def kIfe (a b : C) (t : Bool) (s : S) : Oc R := if t = true then ev G cal a s else ev G cal b s
def call1 (n : Nat) (r : Option (List D)) (s : S) : Oc R := match r with
  | some ds => doCall cal n ds s
  | none => .bad
def kCall (n : Nat) (rs : List R) (s : S) : Oc R := call1 cal n (keepRs rs) s
def call2 (r : CR) (env : List Slot) : Oc R := match r with
  | .ok r st => .ok r ⟨env, st⟩
  | .ex c fs st => .ex c fs ⟨env, st⟩
  | .bad => .bad
def bi1 (b : Bi) (r : Option (List Vw)) (s : S) : Oc R := match r with
  | some vs => opt (biV b vs) s
  | none => .bad
def kBi (b : Bi) (rs : List R) (s : S) : Oc R := bi1 b (views s rs) s
def mt1 (m : Mt) (a : Str) (r : Option (List Vw)) (s : S) : Oc R := match r with
  | some vs => opt (mtV m (.at (.str a)) vs) s
  | none => .bad
def kMt2 (m : Mt) (a : Str) (rs : List R) (s : S) : Oc R := mt1 m a (views s rs) s
def kMt1 (m : Mt) (es : CL) (x : R) (s : S) : Oc R := match x with
  | .va (.str a) => (evL G cal es s).bind (kMt2 m a)
  | _ => .bad
def g2c (u : Option Vw) (r : Option (List D)) (s : S) : Oc R := match u, r with
  | some (.dc false l), some [k, d] => match keyD k with
    | some q => .ok (.va ((dget (.inl q) l).getD d)) s
    | none => .bad
  | _, _ => .bad
def kGet3 (x y z : R) (s : S) : Oc R := g2c (view s x) (keepRs [y, z]) s
def kGet2 (b : C) (x y : R) (s : S) : Oc R := (ev G cal b s).bind (kGet3 x y)
def g2a (u : Option Vw) (a b : C) (x : R) (s : S) : Oc R := match u with
  | some (.dc false _) => (ev G cal a s).bind (kGet2 G cal b x)
  | _ => .bad
def kGet1 (a b : C) (x : R) (s : S) : Oc R := g2a G cal (view s x) a b x s
def dx2 (u : Option Vw) (k : Option D) (s : S) : Oc R := match u, k with
  | some (.dc false l), some k => match keyD k with
    | some q => opt ((dget (.inl q) l).map .va) s
    | none => .bad
  | _, _ => .bad
def kDix2 (x y : R) (s : S) : Oc R := dx2 (view s x) (keepR y) s
def kDix1 (b : C) (x : R) (s : S) : Oc R := (ev G cal b s).bind (kDix2 x)
def sl2 (u : Option Vw) (lo hi : Option Int) (s : S) : Oc R := match u with
  | some u => opt (slV u lo hi) s
  | none => .bad
def kSl3 (x : R) (lo hi : Option Int) (s : S) : Oc R := sl2 (view s x) lo hi s
def kSl2 (hi : CO) (x : R) (lo : Option Int) (s : S) : Oc R := (evO G cal hi s).bind (kSl3 x lo)
def kSl1 (lo hi : CO) (x : R) (s : S) : Oc R := (evO G cal lo s).bind (kSl2 G cal hi x)
def kInt (r : R) (s : S) : Oc (Option Int) := match r with
  | .va (.int i) => .ok (some i) s
  | _ => .bad
def ch2 (o' : CmpOp) (v w : Option Vw) (s : S) : Oc R := match v, w with
  | some v, some w => opt ((cmpV o' v w).map fun t => .va (.bl t)) s
  | _, _ => .bad
def kCh3 (o' : CmpOp) (y z : R) (s : S) : Oc R := ch2 o' (view s y) (view s z) s
def ch1 (o' : CmpOp) (c : C) (y : R) (t : Option Bool) (s : S) : Oc R := match t with
  | some true => (ev G cal c s).bind (kCh3 o' y)
  | some false => .ok (.va (.bl false)) s
  | none => .bad
def ch0 (o o' : CmpOp) (c : C) (y : R) (u v : Option Vw) (s : S) : Oc R := match u, v with
  | some u, some v => ch1 G cal o' c y (cmpV o u v) s
  | _, _ => .bad
def kCh2 (o o' : CmpOp) (c : C) (x y : R) (s : S) : Oc R := ch0 G cal o o' c y (view s x) (view s y) s
def kCh1 (o o' : CmpOp) (b c : C) (x : R) (s : S) : Oc R := (ev G cal b s).bind (kCh2 G cal o o' c x)
def kSq (r : R) (s : S) : Oc (List D) := opt (sqItems s r) s
def kRng (r : R) (s : S) : Oc (List D) := match r with
  | .va (.int j) => if small62 j = true then .ok (rngD 0 j.toNat) s else .bad
  | _ => .bad
def enu1 (u : Option (List D)) (v : Option Vw) (s : S) : Oc (List D) := match u, v with
  | some l, some (.ls _) => .ok (enumD 0 l) s
  | _, _ => .bad
def kEnu (r : R) (s : S) : Oc (List D) := enu1 (sqItems s r) (view s r) s
def lcB (elt : C) (tg : Tg) (ifs : CL) (own : List (Str × Nat)) (d : D) (s : S) : Oc (Option D) := match bindT tg d s with
  | none => .bad
  | some s1 => (evIfs G cal ifs s1).bind fun t s2 => if t = true then (ev G cal elt s2).bind fun r s3 => (match keepR r with
      | some y => .ok (some y) (wipeE s3 (own.map (·.2)))
      | none => .bad) else .ok none (wipeE s2 (own.map (·.2)))
def kFl (ys : List D) (s : S) : Oc R := .ok (.fl ys) s
def kLc (elt : C) (tg : Tg) (ifs : CL) (own : List (Str × Nat)) (l : List D) (s : S) : Oc R :=
  (lcTurns (lcB G cal elt tg ifs own) l [] (wipeE s (own.map (·.2)))).bind kFl
def kPair2 (a b : R) (rs : List (R × R)) (s : S) : Oc (List (R × R)) := .ok ((a, b) :: rs) s
def kPair1 (r : CP) (a b : R) (s : S) : Oc (List (R × R)) := (evP G cal r s).bind (kPair2 a b)
def kPair0 (v : C) (r : CP) (a : R) (s : S) : Oc (List (R × R)) := (ev G cal v s).bind (kPair1 G cal r a)
theorem r_var (i x p s) : ev G cal (.var i x p) s = (match s.env[i]? with
    | some (.va d) => .ok (.va d) s
    | some (.ol _) => .ok (.own i) s
    | some (.od _ _) => .ok (.own i) s
    | _ => .bad) := rfl
def rv (i : Nat) (x : Option Slot) (s : S) : Oc R := match x with
    | some (.va d) => .ok (.va d) s
    | some (.ol _) => .ok (.own i) s
    | some (.od _ _) => .ok (.own i) s
    | _ => .bad
def rfz (i : Nat) (x : Option Slot) (s : S) : Oc R := match x with
    | some (.va d) => .ok (.va d) s
    | some (.ol l) => .ok (.va (.lst l)) (setE s i (.va (.lst l)))
    | some (.od t l) => .ok (.va (.dct t l)) (setE s i (.va (.dct t l)))
    | _ => .bad
def rmv (i : Nat) (x : Option Slot) (s : S) : Oc R := match x with
    | some (.va d) => .ok (.va d) s
    | some (.ol l) => .ok (.fl l) (setE s i .no)
    | some (.od t l) => .ok (.fd t l) (setE s i .no)
    | _ => .bad
def rgl (x : Option (Str × D)) (s : S) : Oc R := match x with
    | some (_, d) => .ok (.va d) s
    | none => .bad
@[simp] theorem ev_var (i x p s) : ev G cal (.var i x p) s = rv i s.env[i]? s := rfl
@[simp] theorem ev_fz (i x p s) : ev G cal (.fz i x p) s = rfz i s.env[i]? s := rfl
@[simp] theorem ev_mv (i x p s) : ev G cal (.mv i x p) s = rmv i s.env[i]? s := rfl
@[simp] theorem ev_glo (i x p s) : ev G cal (.glo i x p) s = rgl G.cst[i]? s := rfl
@[simp] theorem ev_cint (n k p s) : ev G cal (.cint n k p) s = .ok (.va (.int n)) s := rfl
@[simp] theorem ev_cbl (n k p s) : ev G cal (.cbl n k p) s = .ok (.va (.bl n)) s := rfl
@[simp] theorem ev_cnon (k p s) : ev G cal (.cnon k p) s = .ok (.va .non) s := rfl
@[simp] theorem ev_cstr (n k p s) : ev G cal (.cstr n k p) s = .ok (.va (.str n)) s := rfl
@[simp] theorem ev_bty (n x p s) : ev G cal (.bty n x p) s = .ok (.va (.ty n)) s := rfl
@[simp] theorem ev_tup (es k p s) : ev G cal (.tup es k p) s = (evL G cal es s).bind kTup := rfl
@[simp] theorem ev_lst (es p s) : ev G cal (.lst es p) s = (evL G cal es s).bind kLst := rfl
@[simp] theorem ev_dct (ps p s) : ev G cal (.dct ps p) s = (evP G cal ps s).bind kDct := rfl
@[simp] theorem ev_bin (o a b p s) : ev G cal (.bin o a b p) s = (ev G cal a s).bind (kBin1 G cal o b) := rfl
@[simp] theorem kBin1_s (o b x s) : kBin1 G cal o b x s = (ev G cal b s).bind (kBin2 o x) := rfl
@[simp] theorem kBin2_s (o x y s) : kBin2 o x y s = b2 o (view s x) (view s y) s := rfl
@[simp] theorem ev_un (o a p s) : ev G cal (.un o a p) s = (ev G cal a s).bind (kUn o) := by
  show (ev G cal a s).bind _ = _
  congr 1
  funext x s1
  show _ = un1 o (view s1 x) s1
  cases view s1 x <;> rfl
@[simp] theorem kUn_s (o x s) : kUn o x s = un1 o (view s x) s := rfl
@[simp] theorem ev_cmp (o a b p s) : ev G cal (.cmp o a b p) s = (ev G cal a s).bind (kCmp1 G cal o b) := rfl
@[simp] theorem kCmp1_s (o b x s) : kCmp1 G cal o b x s = (ev G cal b s).bind (kCmp2 o x) := rfl
@[simp] theorem kCmp2_s (o x y s) : kCmp2 o x y s = c2 o (view s x) (view s y) s := rfl
@[simp] theorem ev_ix (a b p s) : ev G cal (.ix a b p) s = (ev G cal a s).bind (kIx1 G cal b) := rfl
@[simp] theorem kIx1_s (b x s) : kIx1 G cal b x s = (ev G cal b s).bind (kIx2 x) := rfl
@[simp] theorem kIx2_s (x y s) : kIx2 x y s = x2 (view s x) (view s y) s := rfl
@[simp] theorem ev_dix (a b p s) : ev G cal (.dix a b p) s = (ev G cal a s).bind (kDix1 G cal b) := rfl
@[simp] theorem kDix1_s (b x s) : kDix1 G cal b x s = (ev G cal b s).bind (kDix2 x) := rfl
@[simp] theorem kDix2_s (x y s) : kDix2 x y s = dx2 (view s x) (keepR y) s := rfl
def din2 (n : Bool) (k : Option D) (u : Option Vw) (s : S) : Oc R := match k, u with
  | some k, some (.dc false l) => match keyD k with
    | some q => .ok (.va (.bl (if n = true then !(dget (.inl q) l).isSome else (dget (.inl q) l).isSome))) s
    | none => .bad
  | _, _ => .bad
def kDin2 (n : Bool) (x y : R) (s : S) : Oc R := din2 n (keepR x) (view s y) s
def kDin1 (n : Bool) (b : C) (x : R) (s : S) : Oc R := (ev G cal b s).bind (kDin2 n x)
@[simp] theorem ev_din (n a b p s) : ev G cal (.din n a b p) s = (ev G cal a s).bind (kDin1 G cal n b) := rfl
@[simp] theorem kDin1_s (n b x s) : kDin1 G cal n b x s = (ev G cal b s).bind (kDin2 n x) := rfl
@[simp] theorem kDin2_s (n x y s) : kDin2 n x y s = din2 n (keepR x) (view s y) s := rfl
@[simp] theorem din2_t (k : Str) (l s) : din2 true (some (.str k)) (some (.dc false l)) s = .ok (.va (.bl (!(dget (.inl (.inr k)) l).isSome))) s := rfl
@[simp] theorem din2_f (k : Str) (l s) : din2 false (some (.str k)) (some (.dc false l)) s = .ok (.va (.bl (dget (.inl (.inr k)) l).isSome)) s := rfl
@[simp] theorem ev_chain (o o' a b c p s) : ev G cal (.chain o o' a b c p) s = (ev G cal a s).bind (kCh1 G cal o o' b c) := rfl
@[simp] theorem kCh1_s (o o' b c x s) : kCh1 G cal o o' b c x s = (ev G cal b s).bind (kCh2 G cal o o' c x) := rfl
@[simp] theorem kCh2_s (o o' c x y s) : kCh2 G cal o o' c x y s = ch0 G cal o o' c y (view s x) (view s y) s := rfl
@[simp] theorem ch0_s (o o' c y u v s) : ch0 G cal o o' c y (some u) (some v) s = ch1 G cal o' c y (cmpV o u v) s := rfl
@[simp] theorem ch1_s (o' c y s) (t : Bool) : ch1 G cal o' c y (some t) s = if t = true then (ev G cal c s).bind (kCh3 o' y) else .ok (.va (.bl false)) s := by cases t <;> rfl
@[simp] theorem kCh3_s (o' y z s) : kCh3 o' y z s = ch2 o' (view s y) (view s z) s := rfl
@[simp] theorem ch2_s (o' v w s) : ch2 o' (some v) (some w) s = opt ((cmpV o' v w).map fun t => .va (.bl t)) s := rfl
@[simp] theorem ev_and (a es p s) : ev G cal (.and_ a es p) s = ((ev G cal a s).bind asBk).bind (kAnd G cal es) := rfl
@[simp] theorem ev_or (a es p s) : ev G cal (.or_ a es p) s = ((ev G cal a s).bind asBk).bind (kOr G cal es) := rfl
@[simp] theorem ev_not (a p s) : ev G cal (.not_ a p) s = ((ev G cal a s).bind asBk).bind kNot := rfl
@[simp] theorem ev_ife (t a b p s) : ev G cal (.ife t a b p) s = ((ev G cal t s).bind asBk).bind (kIfe G cal a b) := rfl
@[simp] theorem kAnd_s (es t s) : kAnd G cal es t s = if t = true then evAnd G cal es s else .ok (.va (.bl false)) s := rfl
@[simp] theorem kOr_s (es t s) : kOr G cal es t s = if t = true then .ok (.va (.bl true)) s else evOr G cal es s := rfl
@[simp] theorem kNot_s (t s) : kNot t s = .ok (.va (.bl (!t))) s := rfl
@[simp] theorem kIfe_s (a b t s) : kIfe G cal a b t s = if t = true then ev G cal a s else ev G cal b s := rfl
@[simp] theorem asBk_s (b s) : asBk (.va (.bl b)) s = .ok b s := rfl
@[simp] theorem ev_call (n x px es p s) : ev G cal (.call n x px es p) s = (evL G cal es s).bind (kCall cal n) := rfl
@[simp] theorem kCall_s (n rs s) : kCall cal n rs s = call1 cal n (keepRs rs) s := rfl
@[simp] theorem call1_s (n ds s) : call1 cal n (some ds) s = call2 (cal n ds s.st) s.env := by
  show doCall cal n ds s = _
  unfold doCall
  cases cal n ds s.st <;> rfl
@[simp] theorem call2_s (r st env) : call2 (.ok r st) env = .ok r ⟨env, st⟩ := rfl
@[simp] theorem ev_bi (b px es p s) : ev G cal (.bi b px es p) s = (evL G cal es s).bind (kBi b) := rfl
@[simp] theorem kBi_s (b rs s) : kBi b rs s = bi1 b (views s rs) s := rfl
@[simp] theorem bi1_s (b vs s) : bi1 b (some vs) s = opt (biV b vs) s := rfl
@[simp] theorem ev_mt (m o pa es p s) : ev G cal (.mt m o pa es p) s = (ev G cal o s).bind (kMt1 G cal m es) := by
  show (ev G cal o s).bind _ = _
  congr 1
  funext x s1
  match x with
  | .va (.str a) =>
    show (evL G cal es s1).bind _ = (evL G cal es s1).bind _
    congr 1
    funext rs s2
    show _ = mt1 m a (views s2 rs) s2
    cases views s2 rs <;> rfl
  | .va .non | .va (.bl _) | .va (.int _) | .va (.ty _) | .va (.fn _) | .va (.tup _) | .va (.lst _) | .va (.dct _ _) | .va (.ref _) | .va (.scr _) | .fl _ | .fd _ _ | .own _ => rfl
@[simp] theorem kMt1_s (m es a s) : kMt1 G cal m es (.va (.str a)) s = (evL G cal es s).bind (kMt2 m a) := rfl
@[simp] theorem kMt2_s (m a rs s) : kMt2 m a rs s = mt1 m a (views s rs) s := rfl
@[simp] theorem mt1_s (m a vs s) : mt1 m a (some vs) s = opt (mtV m (.at (.str a)) vs) s := rfl
@[simp] theorem ev_get2 (o a b pa p s) : ev G cal (.get2 o a b pa p) s = (ev G cal o s).bind (kGet1 G cal a b) := by
  show (ev G cal o s).bind _ = _
  congr 1
@[simp] theorem kGet1_s (a b x s) : kGet1 G cal a b x s = g2a G cal (view s x) a b x s := rfl
@[simp] theorem g2a_s (l a b x s) : g2a G cal (some (.dc false l)) a b x s = (ev G cal a s).bind (kGet2 G cal b x) := rfl
@[simp] theorem kGet2_s (b x y s) : kGet2 G cal b x y s = (ev G cal b s).bind (kGet3 x y) := rfl
@[simp] theorem kGet3_s (x y z s) : kGet3 x y z s = g2c (view s x) (keepRs [y, z]) s := rfl
@[simp] theorem g2c_i (l d s) (k : Int) : g2c (some (.dc false l)) (some [.int k, d]) s = .ok (.va ((dget (.inl (.inl k)) l).getD d)) s := rfl
@[simp] theorem g2c_s (l d s) (k : Str) : g2c (some (.dc false l)) (some [.str k, d]) s = .ok (.va ((dget (.inl (.inr k)) l).getD d)) s := rfl
@[simp] theorem dx2_i (l s) (k : Int) : dx2 (some (.dc false l)) (some (.int k)) s = opt ((dget (.inl (.inl k)) l).map .va) s := rfl
@[simp] theorem dx2_s (l s) (k : Str) : dx2 (some (.dc false l)) (some (.str k)) s = opt ((dget (.inl (.inr k)) l).map .va) s := rfl
@[simp] theorem ev_sl (a lo hi ps p s) : ev G cal (.sl a lo hi ps p) s = (ev G cal a s).bind (kSl1 G cal lo hi) := rfl
@[simp] theorem kSl1_s (lo hi x s) : kSl1 G cal lo hi x s = (evO G cal lo s).bind (kSl2 G cal hi x) := rfl
@[simp] theorem kSl2_s (hi x lo s) : kSl2 G cal hi x lo s = (evO G cal hi s).bind (kSl3 x lo) := rfl
@[simp] theorem kSl3_s (x lo hi s) : kSl3 x lo hi s = sl2 (view s x) lo hi s := rfl
@[simp] theorem sl2_s (u lo hi s) : sl2 (some u) lo hi s = opt (slV u lo hi) s := rfl
@[simp] theorem ev_lc (elt tg it ifs sc own p s) : ev G cal (.lc elt tg it ifs sc own p) s = (evI G cal it s).bind (kLc G cal elt tg ifs own) := rfl
theorem kLc_s (elt tg ifs own l s) : kLc G cal elt tg ifs own l s = (lcTurns (lcB G cal elt tg ifs own) l [] (wipeE s (own.map (·.2)))).bind kFl := rfl
@[simp] theorem kFl_s (ys s) : kFl ys s = .ok (.fl ys) s := rfl
@[simp] theorem evL_nil (s) : evL G cal .nil s = .ok [] s := rfl
@[simp] theorem evL_cons (c cs s) : evL G cal (.cons c cs) s = (ev G cal c s).bind (kCons1 G cal cs) := rfl
@[simp] theorem kCons1_s (cs r s) : kCons1 G cal cs r s = (evL G cal cs s).bind (kCons2 r) := rfl
@[simp] theorem kCons2_s (r rs s) : kCons2 r rs s = .ok (r :: rs) s := rfl
@[simp] theorem evP_nil (s) : evP G cal .nil s = .ok [] s := rfl
@[simp] theorem evP_cons (k v r s) : evP G cal (.cons k v r) s = (ev G cal k s).bind (kPair0 G cal v r) := rfl
@[simp] theorem kPair0_s (v r a s) : kPair0 G cal v r a s = (ev G cal v s).bind (kPair1 G cal r a) := rfl
@[simp] theorem kPair1_s (r a b s) : kPair1 G cal r a b s = (evP G cal r s).bind (kPair2 a b) := rfl
@[simp] theorem kPair2_s (a b rs s) : kPair2 a b rs s = .ok ((a, b) :: rs) s := rfl
@[simp] theorem evAnd_1 (c s) : evAnd G cal (.cons c .nil) s = ev G cal c s := rfl
@[simp] theorem evAnd_2 (c d ds s) : evAnd G cal (.cons c (.cons d ds)) s = ((ev G cal c s).bind asBk).bind (kAnd G cal (.cons d ds)) := rfl
@[simp] theorem evOr_1 (c s) : evOr G cal (.cons c .nil) s = ev G cal c s := rfl
@[simp] theorem evOr_2 (c d ds s) : evOr G cal (.cons c (.cons d ds)) s = ((ev G cal c s).bind asBk).bind (kOr G cal (.cons d ds)) := rfl
@[simp] theorem evIfs_0 (s) : evIfs G cal .nil s = .ok true s := rfl
@[simp] theorem evIfs_1 (c s) : evIfs G cal (.cons c .nil) s = (ev G cal c s).bind asBk := rfl
@[simp] theorem evO_no (s) : evO G cal .no s = .ok none s := rfl
@[simp] theorem evO_so (c s) : evO G cal (.so c) s = (ev G cal c s).bind kInt := rfl
@[simp] theorem kInt_s (i s) : kInt (.va (.int i)) s = .ok (some i) s := rfl
@[simp] theorem evI_sq (c s) : evI G cal (.sq c) s = (ev G cal c s).bind kSq := rfl
@[simp] theorem kSq_s (r s) : kSq r s = opt (sqItems s r) s := rfl
@[simp] theorem evI_rng (a px p s) : evI G cal (.rng1 a px p) s = (ev G cal a s).bind kRng := rfl
@[simp] theorem kRng_s (j s) : kRng (.va (.int j)) s = if small62 j = true then .ok (rngD 0 j.toNat) s else .bad := rfl
@[simp] theorem evI_enu (c px p s) : evI G cal (.enu c px p) s = (ev G cal c s).bind kEnu := by
  show (ev G cal c s).bind _ = _
  congr 1
@[simp] theorem kEnu_s (r s) : kEnu r s = enu1 (sqItems s r) (view s r) s := rfl
@[simp] theorem enu1_s (l m s) : enu1 (some l) (some (.ls m)) s = .ok (enumD 0 l) s := rfl
/-! flow -/
def seqF (cs : CB) (f : Fl) : Fl := match f with
  | .nx s1 => exb G cal cs s1
  | f => f
def set1 (i : Nat) (d : Option D) (s : S) : Fl := match d with
  | some d => .nx (setE s i (.va d))
  | none => .bad
def kSet (i : Nat) (r : R) (s : S) : Fl := set1 i (keepR r) s
def kSeto (i : Nat) (r : R) (s : S) : Fl := match r with
  | .fl l => .nx (setE s i (.ol l))
  | .fd t l => .nx (setE s i (.od t l))
  | .va d => .nx (setE s i (.va d))
  | .own _ => .bad
def opF (s : Option S) : Fl := match s with
  | some s => .nx s
  | none => .bad
def unp1 (l : List (Nat × Str × Pos)) (ds : Option (List D)) (s : S) : Fl := match ds with
  | some ds => opF (bindN l ds s)
  | none => .bad
def kUnp (l : List (Nat × Str × Pos)) (r : R) (s : S) : Fl := unp1 l (unpItems s r) s
def app2 (i : Nat) (d : Option D) (x : Option Slot) (s : S) : Fl := match d, x with
  | some d, some (.ol l) => if l.length < sizeLine then .nx (setE s i (.ol (l ++ [d]))) else .bad
  | _, _ => .bad
def kApp (i : Nat) (r : R) (s : S) : Fl := app2 i (keepR r) s.env[i]? s
def app1 (i : Nat) (c : C) (x : Option Slot) (s : S) : Fl := match x with
  | some (.ol _) => (ev G cal c s).fl (kApp i)
  | _ => .bad
def kNx (_ : R) (s : S) : Fl := .nx s
def kRt (r : R) (s : S) : Fl := .rt r s
def kIf (a b : CB) (t : Bool) (s : S) : Fl := if t = true then exb G cal a s else exb G cal b s
def forB (tg : Tg) (b : CB) (d : D) (s : S) : Fl := match bindT tg d s with
  | some s1 => exb G cal b s1
  | none => .bad
def kFor (tg : Tg) (b : CB) (l : List D) (s : S) : Fl := forTurns (forB G cal tg b) l s
def whT (t : C) (s : S) : Oc Bool := (ev G cal t s).bind asBk
def whB (b : CB) (s : S) : Fl := exb G cal b s
@[simp] theorem exb_nil (s) : exb G cal .nil s = .nx s := rfl
@[simp] theorem exb_cons (c cs s) : exb G cal (.cons c cs) s = seqF G cal cs (exs G cal c s) := by
  show (match exs G cal c s with
    | .nx s1 => exb G cal cs s1
    | f => f) = _
  unfold seqF
  rfl
@[simp] theorem seqF_nx (cs s) : seqF G cal cs (.nx s) = exb G cal cs s := rfl
@[simp] theorem seqF_rt (cs r s) : seqF G cal cs (.rt r s) = .rt r s := rfl
@[simp] theorem seqF_bk (cs s) : seqF G cal cs (.bk s) = .bk s := rfl
@[simp] theorem seqF_ct (cs s) : seqF G cal cs (.ct s) = .ct s := rfl
@[simp] theorem seqF_ex (cs c fs s) : seqF G cal cs (.ex c fs s) = .ex c fs s := rfl
@[simp] theorem exs_set (i x px c p s) : exs G cal (.set i x px c p) s = (ev G cal c s).fl (kSet i) := rfl
@[simp] theorem kSet_s (i r s) : kSet i r s = set1 i (keepR r) s := rfl
@[simp] theorem set1_s (i d s) : set1 i (some d) s = .nx (setE s i (.va d)) := rfl
@[simp] theorem exs_seto (i x px c p s) : exs G cal (.seto i x px c p) s = (ev G cal c s).fl (kSeto i) := by
  show (ev G cal c s).fl _ = _
  congr 1
@[simp] theorem kSeto_fl (i l s) : kSeto i (.fl l) s = .nx (setE s i (.ol l)) := rfl
@[simp] theorem kSeto_fd (i t l s) : kSeto i (.fd t l) s = .nx (setE s i (.od t l)) := rfl
@[simp] theorem kSeto_va (i d s) : kSeto i (.va d) s = .nx (setE s i (.va d)) := rfl
@[simp] theorem exs_unp (l k pt c p s) : exs G cal (.unp l k pt c p) s = (ev G cal c s).fl (kUnp l) := by
  show (ev G cal c s).fl _ = _
  congr 1
@[simp] theorem kUnp_s (l r s) : kUnp l r s = unp1 l (unpItems s r) s := rfl
@[simp] theorem unp1_s (l ds s) : unp1 l (some ds) s = opF (bindN l ds s) := rfl
@[simp] theorem opF_s (s) : opF (some s) = .nx s := rfl
@[simp] theorem exs_app (i x px pa c pc p s) : exs G cal (.app i x px pa c pc p) s = app1 G cal i c s.env[i]? s := by
  show (match s.env[i]? with | some (.ol _) => _ | _ => _) = _
  cases s.env[i]? with
  | none => rfl
  | some x => cases x with
    | ol l =>
      show (ev G cal c s).fl _ = (ev G cal c s).fl _
      congr 1
    | _ => rfl
@[simp] theorem app1_s (i c l s) : app1 G cal i c (some (.ol l)) s = (ev G cal c s).fl (kApp i) := rfl
@[simp] theorem kApp_s (i r s) : kApp i r s = app2 i (keepR r) s.env[i]? s := rfl
theorem app2_s {i d l s} (h : l.length < 16777216) : app2 i (some d) (some (.ol l)) s = .nx (setE s i (.ol (l ++ [d]))) := if_pos (by rw [sizeLine_eq]; exact h)
@[simp] theorem exs_expr (c p s) : exs G cal (.expr c p) s = (ev G cal c s).fl kNx := rfl
@[simp] theorem kNx_s (r s) : kNx r s = .nx s := rfl
@[simp] theorem exs_ret (c p s) : exs G cal (.ret c p) s = (ev G cal c s).fl kRt := rfl
@[simp] theorem kRt_s (r s) : kRt r s = .rt r s := rfl
@[simp] theorem exs_ifs (t a b p s) : exs G cal (.ifs t a b p) s = ((ev G cal t s).bind asBk).fl (kIf G cal a b) := rfl
@[simp] theorem kIf_s (a b t s) : kIf G cal a b t s = if t = true then exb G cal a s else exb G cal b s := rfl
@[simp] theorem exs_for (tg it b p s) : exs G cal (.for_ tg it b p) s = (evI G cal it s).fl (kFor G cal tg b) := rfl
theorem kFor_s (tg b l s) : kFor G cal tg b l s = forTurns (forB G cal tg b) l s := rfl
theorem forB_s (tg b d s s1) (h : bindT tg d s = some s1) : forB G cal tg b d s = exb G cal b s1 := by unfold forB; rw [h]
@[simp] theorem forB_nm (i x p b d s) : forB G cal (.nm i x p) b d s = exb G cal b (setE s i (.va d)) := rfl
@[simp] theorem exs_pass (p s) : exs G cal (.pass p) s = .nx s := rfl
end
@[simp] theorem bind_ok' {α β : Type} (a : α) (s : S) (f : α → S → Oc β) : (Oc.ok a s).bind f = f a s := rfl
@[simp] theorem fl_ok' {α : Type} (a : α) (s : S) (f : α → S → Fl) : (Oc.ok a s).fl f = f a s := rfl
@[simp] theorem opt_s' {α : Type} (a : α) (s : S) : opt (some a) s = .ok a s := rfl
@[simp] theorem b2_s (o u v s) : b2 o (some u) (some v) s = opt (binV o u v) s := rfl
@[simp] theorem c2_s (o u v s) : c2 o (some u) (some v) s = opt ((cmpV o u v).map fun t => .va (.bl t)) s := rfl
@[simp] theorem x2_s (u v s) : x2 (some u) (some v) s = opt ((ixV u v).map .va) s := rfl
@[simp] theorem un1_s (o u s) : un1 o (some u) s = opt (unV o u) s := rfl
@[simp] theorem unV_s (i : Int) : unV .USub (.at (.int i)) = some (.va (.int (-i))) := rfl
@[simp] theorem kTup_s (rs s) : kTup rs s = tup1 (keepRs rs) s := rfl
@[simp] theorem kLst_s (rs s) : kLst rs s = lst1 (keepRs rs) s := rfl
@[simp] theorem kDct_s (rs s) : kDct rs s = dct1 (keepPs rs) s := rfl
@[simp] theorem tup1_s (ds s) : tup1 (some ds) s = if ds.length ≤ 16777216 then .ok (.va (.tup ds)) s else .bad := rfl
@[simp] theorem lst1_s (ds s) : lst1 (some ds) s = if ds.length ≤ 16777216 then .ok (.fl ds) s else .bad := rfl
@[simp] theorem dct1_s (q s) : dct1 (some q) s = if 0 < q.length ∧ q.length ≤ 15 then opt ((dputs [] q).map (.fd false)) s else .bad := rfl
@[simp] theorem keepRs_nil : keepRs [] = some [] := rfl
def consO (a : Option D) (b : Option (List D)) : Option (List D) := match a, b with
  | some d, some ds => some (d :: ds)
  | _, _ => none
@[simp] theorem consO_s (a b) : consO (some a) (some b) = some (a :: b) := rfl
@[simp] theorem keepRs_cons (r rs) : keepRs (r :: rs) = consO (keepR r) (keepRs rs) := by
  show (match keepR r, keepRs rs with | some d, some ds => _ | _, _ => _) = _
  cases keepR r <;> cases keepRs rs <;> rfl
@[simp] theorem keepR_va (d) : keepR (.va d) = some d := rfl
@[simp] theorem keepR_fl (d) : keepR (.fl d) = some (.lst d) := rfl
@[simp] theorem keepR_fd (t d) : keepR (.fd t d) = some (.dct t d) := rfl
def consP (a b : Option D) (c : Option (List (D × D))) : Option (List (D × D)) := match a, b, c with
  | some d, some e, some ds => some ((d, e) :: ds)
  | _, _, _ => none
@[simp] theorem consP_s (a b c) : consP (some a) (some b) (some c) = some ((a, b) :: c) := rfl
@[simp] theorem keepPs_nil : keepPs [] = some [] := rfl
@[simp] theorem keepPs_cons (a b rs) : keepPs ((a, b) :: rs) = consP (keepR a) (keepR b) (keepPs rs) := by
  show (match keepR a, keepR b, keepPs rs with | some d, some e, some ds => _ | _, _, _ => _) = _
  cases keepR a <;> cases keepR b <;> cases keepPs rs <;> rfl
def consV (a : Option Vw) (b : Option (List Vw)) : Option (List Vw) := match a, b with
  | some d, some ds => some (d :: ds)
  | _, _ => none
@[simp] theorem consV_s (a b) : consV (some a) (some b) = some (a :: b) := rfl
@[simp] theorem views_nil (s) : views s [] = some [] := rfl
@[simp] theorem views_cons (s r rs) : views s (r :: rs) = consV (view s r) (views s rs) := by
  show (match view s r, views s rs with | some d, some ds => _ | _, _ => _) = _
  cases view s r <;> cases views s rs <;> rfl
@[simp] theorem rv_va (i d s) : rv i (some (.va d)) s = .ok (.va d) s := rfl
@[simp] theorem rv_ol (i d s) : rv i (some (.ol d)) s = .ok (.own i) s := rfl
@[simp] theorem rv_od (i t d s) : rv i (some (.od t d)) s = .ok (.own i) s := rfl
@[simp] theorem rfz_va (i d s) : rfz i (some (.va d)) s = .ok (.va d) s := rfl
@[simp] theorem rfz_ol (i d s) : rfz i (some (.ol d)) s = .ok (.va (.lst d)) (setE s i (.va (.lst d))) := rfl
@[simp] theorem rfz_od (i t d s) : rfz i (some (.od t d)) s = .ok (.va (.dct t d)) (setE s i (.va (.dct t d))) := rfl
@[simp] theorem rmv_va (i d s) : rmv i (some (.va d)) s = .ok (.va d) s := rfl
@[simp] theorem rmv_ol (i d s) : rmv i (some (.ol d)) s = .ok (.fl d) (setE s i .no) := rfl
@[simp] theorem rmv_od (i t d s) : rmv i (some (.od t d)) s = .ok (.fd t d) (setE s i .no) := rfl
@[simp] theorem rgl_s (x d s) : rgl (some (x, d)) s = .ok (.va d) s := rfl
@[simp] theorem setE_e (env st i x) : setE ⟨env, st⟩ i x = ⟨env.set i x, st⟩ := rfl
@[simp] theorem outR_rt_va (d s) : outR (.rt (.va d) s) = .ok (.va d) s.st := rfl
@[simp] theorem outR_rt_fl (d s) : outR (.rt (.fl d) s) = .ok (.fl d) s.st := rfl
@[simp] theorem outR_rt_fd (t d s) : outR (.rt (.fd t d) s) = .ok (.fd t d) s.st := rfl
@[simp] theorem outR_nx (s) : outR (.nx s) = .ok (.va .non) s.st := rfl
@[simp] theorem outR_ex (c fs s) : outR (.ex c fs s) = .ex c fs s.st := rfl
/-! views -/
@[simp] theorem vw_non (s : S) : view s (.va .non) = some (.at .non) := rfl
@[simp] theorem vw_int (s : S) (i : Int) : view s (.va (.int i)) = some (.at (.int i)) := rfl
@[simp] theorem vw_str (s : S) (i : Str) : view s (.va (.str i)) = some (.at (.str i)) := rfl
@[simp] theorem vw_bl (s : S) (i : Bool) : view s (.va (.bl i)) = some (.at (.bl i)) := rfl
@[simp] theorem vw_tup (s : S) (l : List D) : view s (.va (.tup l)) = some (.at (.tup l)) := rfl
@[simp] theorem vw_lst (s : S) (l : List D) : view s (.va (.lst l)) = some (.ls l) := rfl
@[simp] theorem vw_dct (s : S) (t) (l) : view s (.va (.dct t l)) = some (.dc t l) := rfl
@[simp] theorem vw_scr (s : S) (l : List D) : view s (.va (.scr l)) = some (.sc l) := rfl
@[simp] theorem vw_ty (s : S) (n) : view s (.va (.ty n)) = some (.at (.ty n)) := rfl
@[simp] theorem vw_fl (s : S) (l : List D) : view s (.fl l) = some (.ls l) := rfl
@[simp] theorem vw_fd (s : S) (t) (l) : view s (.fd t l) = some (.dc t l) := rfl
@[simp] theorem vw_own (s : S) (i : Nat) : view s (.own i) = vwSl s.env[i]? := rfl
@[simp] theorem vwSl_ol (l) : vwSl (some (.ol l)) = some (.ls l) := rfl
@[simp] theorem vwSl_od (t l) : vwSl (some (.od t l)) = some (.dc t l) := rfl
@[simp] theorem sqI_lst (s l) : sqItems s (.va (.lst l)) = some l := rfl
@[simp] theorem sqI_fl (s l) : sqItems s (.fl l) = some l := rfl
@[simp] theorem sqI_tup (s l) : sqItems s (.va (.tup l)) = some l := rfl
@[simp] theorem sqI_str (s) (z : Str) : sqItems s (.va (.str z)) = some ((cs z).map fun c => .str ⟨#[c]⟩) := rfl
@[simp] theorem unI_lst (s l) : unpItems s (.va (.lst l)) = some l := rfl
@[simp] theorem unI_fl (s l) : unpItems s (.fl l) = some l := rfl
@[simp] theorem unI_tup (s l) : unpItems s (.va (.tup l)) = some l := rfl
@[simp] theorem bindN_0 (s) : bindN [] [] s = some s := rfl
@[simp] theorem bindN_1 (i x p r d ds s) : bindN ((i, x, p) :: r) (d :: ds) s = bindN r ds (setE s i (.va d)) := rfl
@[simp] theorem bindT_nm (i x p d s) : bindT (.nm i x p) d s = some (setE s i (.va d)) := rfl
@[simp] theorem bindT_tp (l k p ds s) : bindT (.tp l k p) (.tup ds) s = bindN l ds s := rfl
/-! values -/
@[simp] theorem q_ii (i j : Int) : eqW (.at (.int i)) (.at (.int j)) = some (decide (i = j)) := eqW_ii i j
@[simp] theorem q_ss (i j : Str) : eqW (.at (.str i)) (.at (.str j)) = some (decide (i = j)) := eqW_ss i j
@[simp] theorem q_bb (i j : Bool) : eqW (.at (.bl i)) (.at (.bl j)) = some (decide (i = j)) := eqW_bb i j
@[simp] theorem q_lt {i j : Int} : cmpV .Lt (.at (.int i)) (.at (.int j)) = some (decide (i < j)) := rfl
@[simp] theorem q_le {i j : Int} : cmpV .LtE (.at (.int i)) (.at (.int j)) = some (decide (i ≤ j)) := rfl
@[simp] theorem q_gt {i j : Int} : cmpV .Gt (.at (.int i)) (.at (.int j)) = some (decide (j < i)) := rfl
@[simp] theorem q_ge {i j : Int} : cmpV .GtE (.at (.int i)) (.at (.int j)) = some (decide (j ≤ i)) := rfl
@[simp] theorem q_eq {u v : Vw} : cmpV .Eq u v = eqW u v := rfl
@[simp] theorem q_ne {u v : Vw} : cmpV .NotEq u v = (eqW u v).map (!·) := rfl
@[simp] theorem q_in {u v : Vw} : cmpV .In u v = inW u v := rfl
@[simp] theorem q_nin {u v : Vw} : cmpV .NotIn u v = (inW u v).map (!·) := rfl
@[simp] theorem q_is {u v : Vw} : cmpV .Is u v = isW u v := rfl
@[simp] theorem q_isn {u v : Vw} : cmpV .IsNot u v = (isW u v).map (!·) := rfl
@[simp] theorem v_add {i j : Int} : binV .Add (.at (.int i)) (.at (.int j)) = some (.va (.int (i + j))) := rfl
@[simp] theorem v_sub {i j : Int} : binV .Sub (.at (.int i)) (.at (.int j)) = some (.va (.int (i - j))) := rfl
@[simp] theorem v_mul {i j : Int} : binV .Mult (.at (.int i)) (.at (.int j)) = if (-18446744073709551616 < i ∧ i < 18446744073709551616) ∨ (-18446744073709551616 < j ∧ j < 18446744073709551616) then some (.va (.int (i * j))) else none := by
  show (if CMul i j then _ else _) = _
  unfold CMul
  simp only [show (-(2 : Int) ^ 64) = -18446744073709551616 by decide, show ((2 : Int) ^ 64) = 18446744073709551616 by decide]
@[simp] theorem v_mod {i j : Int} : binV .Mod (.at (.int i)) (.at (.int j)) = if 0 < j then some (.va (.int (i % j))) else none := rfl
@[simp] theorem v_div {i j : Int} : binV .FloorDiv (.at (.int i)) (.at (.int j)) = if 0 < j ∧ j < 1073741824 then some (.va (.int (i / j))) else none := rfl
@[simp] theorem v_pow {i j : Int} : binV .Pow (.at (.int i)) (.at (.int j)) = if 0 ≤ j ∧ j ≤ 1000000 ∧ i.natAbs < 18446744073709551616 then some (.va (.int (i ^ j.toNat))) else none := rfl
@[simp] theorem v_adds {x y : Str} : binV .Add (.at (.str x)) (.at (.str y)) = if x.length + y.length ≤ 16777216 then some (.va (.str (x ++ y))) else none := rfl
@[simp] theorem v_addl {x y : List D} : binV .Add (.ls x) (.ls y) = if x.length + y.length ≤ 16777216 then some (.fl (x ++ y)) else none := rfl
@[simp] theorem v_addt {x y : List D} : binV .Add (.at (.tup x)) (.at (.tup y)) = if x.length + y.length ≤ 16777216 then some (.va (.tup (x ++ y))) else none := rfl
@[simp] theorem v_muls {x : Str} {j : Int} : binV .Mult (.at (.str x)) (.at (.int j)) = if 0 ≤ j ∧ j ≤ 16777216 ∧ x.length * j.toNat ≤ 16777216 then some (.va (.str (Txt.mul x j))) else none := rfl
@[simp] theorem ix_ls (l i) : ixV (.ls l) (.at (.int i)) = atI l i := rfl
@[simp] theorem ix_sc (l i) : ixV (.sc l) (.at (.int i)) = atI l i := rfl
@[simp] theorem ix_tup (l i) : ixV (.at (.tup l)) (.at (.int i)) = atI l i := rfl
theorem atI_of {α : Type} {l : List α} {i : Int} (h : 0 ≤ i) (h2 : i < l.length) : atI l i = l[i.toNat]? := by
  unfold atI ixN
  rw [if_pos h, if_pos h2]
  rfl
theorem atI_neg {α : Type} {l : List α} {i : Int} (h : i < 0) (h2 : -(l.length : Int) ≤ i) : atI l i = l[(i + l.length).toNat]? := by
  unfold atI ixN
  rw [if_neg (by omega), if_pos h2]
  rfl
@[simp] theorem atI_lit {α : Type} {l : List α} {n : Nat} : atI l (no_index (OfNat.ofNat n : Int)) = l[n]? := by
  show atI l (n : Int) = _
  unfold atI ixN
  rw [if_pos (by omega)]
  by_cases h : (n : Int) < l.length
  · rw [if_pos h]; rfl
  · rw [if_neg h, List.getElem?_eq_none (by omega)]; rfl
@[simp] theorem sl_ls (l lo hi) : slV (.ls l) lo hi = some (.fl (cutD l lo hi)) := rfl
@[simp] theorem sl_sc (l lo hi) : slV (.sc l) lo hi = some (.fl (cutD l lo hi)) := rfl
@[simp] theorem sl_tup (l lo hi) : slV (.at (.tup l)) lo hi = some (.va (.tup (cutD l lo hi))) := rfl
@[simp] theorem cut_to (l : List D) (n : Nat) : cutD l none (some (no_index (OfNat.ofNat n : Int))) = l.take n := by
  show (l.drop (HT.sIx l.length 0 none)).take (HT.sIx l.length l.length (some (n : Int)) - HT.sIx l.length 0 none) = _
  have e : HT.sIx l.length l.length (some (n : Int)) = min n l.length := HT.sIx_nat _ _ _
  rw [e]
  show (l.drop 0).take (min n l.length - 0) = _
  rw [List.drop_zero, Nat.sub_zero]
  rcases Nat.le_total n l.length with h | h
  · rw [Nat.min_eq_left h]
  · rw [Nat.min_eq_right h, List.take_length, List.take_of_length_le h]
@[simp] theorem cut_from (l : List D) (n : Nat) : cutD l (some (no_index (OfNat.ofNat n : Int))) none = l.drop n := by
  show (l.drop (HT.sIx l.length 0 (some (n : Int)))).take (HT.sIx l.length l.length none - HT.sIx l.length 0 (some (n : Int))) = _
  rw [HT.sIx_nat]
  show (l.drop (min n l.length)).take (l.length - min n l.length) = _
  rw [List.take_of_length_le (by rw [List.length_drop]; omega)]
  rcases Nat.le_total n l.length with h | h
  · rw [Nat.min_eq_left h]
  · rw [Nat.min_eq_right h, List.drop_length, List.drop_eq_nil_of_le h]
@[simp] theorem bi_len (l) : biV .len [.ls l] = some (.va (.int l.length)) := rfl
@[simp] theorem bi_lens (l) : biV .len [.sc l] = some (.va (.int l.length)) := rfl
@[simp] theorem bi_lent (l) : biV .len [.at (.tup l)] = some (.va (.int l.length)) := rfl
@[simp] theorem bi_lenx (z) : biV .len [.at (.str z)] = if z.length ≤ 16777216 then some (.va (.int z.length)) else none := rfl
@[simp] theorem bi_int (i) : biV .int [.at (.int i)] = some (.va (.int i)) := rfl
@[simp] theorem bi_intb (b) : biV .int [.at (.bl b)] = some (.va (.int (if b = true then 1 else 0))) := rfl
@[simp] theorem bi_abs (i : Int) : biV .abs [.at (.int i)] = some (.va (.int (if i < 0 then -i else i))) := rfl
@[simp] theorem bi_max (i j) : biV .max [.at (.int i), .at (.int j)] = some (.va (.int (if j > i then j else i))) := rfl
@[simp] theorem bi_min (i j) : biV .min [.at (.int i), .at (.int j)] = some (.va (.int (if j < i then j else i))) := rfl
@[simp] theorem bi_stri (i : Int) : biV .str [.at (.int i)] = if i.natAbs.log2 < 1920 then some (.va (.str (toString i))) else none := rfl
@[simp] theorem bi_strs (i) : biV .str [.at (.str i)] = some (.va (.str i)) := rfl
@[simp] theorem bi_list (l) : biV .list [.ls l] = some (.fl l) := rfl
@[simp] theorem bi_listt (l) : biV .list [.at (.tup l)] = some (.fl l) := rfl
@[simp] theorem bi_tuple (l) : biV .tuple [.ls l] = some (.va (.tup l)) := rfl
@[simp] theorem bi_tuplet (l) : biV .tuple [.at (.tup l)] = some (.va (.tup l)) := rfl
@[simp] theorem small62_s (j : Int) : small62 j = (decide (-4611686018427387904 ≤ j) && decide (j < 4611686018427387904)) := rfl
@[simp] theorem flats_nil : flats [] = some [] := rfl
def consF (a : Option V) (b : Option (List V)) : Option (List V) := match a, b with
  | some v, some vs => if flatV v = true then some (v :: vs) else none
  | _, _ => none
@[simp] theorem flats_cons (d ds) : flats (d :: ds) = consF (flatD d) (flats ds) := by
  show (match flatD d, flats ds with | some d, some ds => _ | _, _ => _) = _
  cases flatD d <;> cases flats ds <;> rfl
@[simp] theorem consF_i (i : Int) (b) : consF (some (.int i)) (some b) = some (.int i :: b) := rfl
@[simp] theorem consF_s (i : Str) (b) : consF (some (.str i)) (some b) = some (.str i :: b) := rfl
@[simp] theorem consF_b (i : Bool) (b) : consF (some (.bl i)) (some b) = some (.bl i :: b) := rfl
@[simp] theorem consF_n (b) : consF (some .non) (some b) = some (.non :: b) := rfl
@[simp] theorem flatD_i (i) : flatD (.int i) = some (.int i) := rfl
@[simp] theorem flatD_s (i) : flatD (.str i) = some (.str i) := rfl
@[simp] theorem flatD_b (i) : flatD (.bl i) = some (.bl i) := rfl
@[simp] theorem flatD_n : flatD .non = some .non := rfl
def in1 (v : Option V) (vs : Option (List V)) : Option Bool := match v, vs with
  | some v, some vs => if flatV v = true then some (inV v vs) else none
  | _, _ => none
theorem inW_ls (d l) (h : scalD d ≠ none) : inW (.at d) (.ls l) = in1 (flatD d) (flats l) := by
  cases d <;> first | rfl | exact absurd rfl h
theorem inW_tup (d l) (h : scalD d ≠ none) : inW (.at d) (.at (.tup l)) = in1 (flatD d) (flats l) := by
  cases d <;> first | rfl | exact absurd rfl h
@[simp] theorem in_i_ls (i : Int) (l) : inW (.at (.int i)) (.ls l) = in1 (flatD (.int i)) (flats l) := rfl
@[simp] theorem in_s_ls (i : Str) (l) : inW (.at (.str i)) (.ls l) = in1 (flatD (.str i)) (flats l) := rfl
@[simp] theorem in_n_ls (l) : inW (.at .non) (.ls l) = in1 (flatD .non) (flats l) := rfl
@[simp] theorem in_i_tup (i : Int) (l) : inW (.at (.int i)) (.at (.tup l)) = in1 (flatD (.int i)) (flats l) := rfl
@[simp] theorem in_s_tup (i : Str) (l) : inW (.at (.str i)) (.at (.tup l)) = in1 (flatD (.str i)) (flats l) := rfl
@[simp] theorem in_n_tup (l) : inW (.at .non) (.at (.tup l)) = in1 (flatD .non) (flats l) := rfl
@[simp] theorem in1_s (v : Str) (vs) : in1 (some (.str v)) (some vs) = some (vs.any fun y => eqV y (.str v)) := rfl
@[simp] theorem in1_i (v : Int) (vs) : in1 (some (.int v)) (some vs) = some (vs.any fun y => eqV y (.int v)) := rfl
@[simp] theorem lit_eq (a b : String) : (Str.ofString a = Str.ofString b) ↔ (a = b) := by
  refine ⟨fun h => ?_, fun h => by rw [h]⟩
  rw [Str.ofString_eq_toList, Str.ofString_eq_toList] at h
  injection h with h
  have h2 : a.toList.map Char.toNat = b.toList.map Char.toNat := by
    have := congrArg Array.toList h
    simpa using this
  have inj : ∀ x y : Char, x.toNat = y.toNat → x = y := fun x y e => Char.ext (UInt32.toNat_inj.mp e)
  have gen : ∀ l m : List Char, l.map Char.toNat = m.map Char.toNat → l = m := by
    intro l
    induction l with
    | nil => intro m e; cases m with
      | nil => rfl
      | cons y ys => simp at e
    | cons x xs ih => intro m e; cases m with
      | nil => simp at e
      | cons y ys =>
        rw [List.map_cons, List.map_cons] at e
        injection e with e1 e2
        rw [inj x y e1, ih ys e2]
  have := gen _ _ h2
  exact String.toList_inj.mp this
@[simp] theorem eqV_ss (a b : Str) : eqV (.str a) (.str b) = decide (b = a) := by
  show (a == b) = _
  exact Bool.eq_iff_iff.mpr ⟨fun h => by simpa using (eq_of_beq h).symm, fun h => by simpa using (of_decide_eq_true h).symm⟩
@[simp] theorem eqV_ii (a b : Int) : eqV (.int a) (.int b) = decide (b = a) := by
  show (a == b) = _
  exact Bool.eq_iff_iff.mpr ⟨fun h => by simpa using (eq_of_beq h).symm, fun h => by simpa using (of_decide_eq_true h).symm⟩
@[simp] theorem eqV_si (a : Str) (b : Int) : eqV (.str a) (.int b) = false := rfl
@[simp] theorem eqV_is (a : Int) (b : Str) : eqV (.int a) (.str b) = false := rfl
/-! forks -/
section
variable {α β : Type} {p : Prop} [Decidable p]
@[simp] theorem seqF_if (G cal cs) (f g : Fl) : seqF G cal cs (if p then f else g) = if p then seqF G cal cs f else seqF G cal cs g := apply_ite _ _ _ _
@[simp] theorem outR_if (f g : Fl) : outR (if p then f else g) = if p then outR f else outR g := apply_ite _ _ _ _
@[simp] theorem bind_if (x y : Oc α) (f : α → S → Oc β) : (if p then x else y).bind f = if p then x.bind f else y.bind f := apply_ite (fun o => Oc.bind o f) _ _ _
@[simp] theorem fl_if (x y : Oc α) (f : α → S → Fl) : (if p then x else y).fl f = if p then x.fl f else y.fl f := apply_ite (fun o => Oc.fl o f) _ _ _
@[simp] theorem bad_bind (f : α → S → Oc β) : (Oc.bad : Oc α).bind f = .bad := rfl
@[simp] theorem bad_fl (f : α → S → Fl) : (Oc.bad : Oc α).fl f = .bad := rfl
@[simp] theorem ex_bind (c fs s) (f : α → S → Oc β) : (Oc.ex c fs s : Oc α).bind f = .ex c fs s := rfl
@[simp] theorem ex_fl (c fs s) (f : α → S → Fl) : (Oc.ex c fs s : Oc α).fl f = .ex c fs s := rfl
@[simp] theorem seqF_bad (G cal cs) : seqF G cal cs .bad = .bad := rfl
@[simp] theorem opt_if (x y : Option α) (s : S) : opt (if p then x else y) s = if p then opt x s else opt y s := apply_ite (fun o => opt o s) _ _ _
@[simp] theorem opt_n (s : S) : opt (none : Option α) s = .bad := rfl
end
theorem rngD_at : ∀ (n : Nat) (lo : Int) (i : Nat) (d : D), (rngD lo n)[i]? = some d → d = .int (lo + i) ∧ i < n
  | 0, lo, i, d, h => by cases h
  | n + 1, lo, 0, d, h => by cases h; exact ⟨by simp, by omega⟩
  | n + 1, lo, i + 1, d, h => by
    obtain ⟨e, h2⟩ := rngD_at n (lo + 1) i d (by simpa [rngD] using h)
    exact ⟨by rw [e]; congr 1; omega, by omega⟩
theorem rngD_size : ∀ (n : Nat) (lo : Int), (rngD lo n).length = n
  | 0, lo => rfl
  | n + 1, lo => by show (rngD (lo + 1) n).length + 1 = n + 1; rw [rngD_size]
/-- a for over a range -/
theorem for_rng {b : D → S → Fl} (P : Nat → S → Prop) (n : Nat) (s : S) (h : P 0 s) (st : ∀ i s, i < n → P i s → ∃ s', (b (.int i) s = .nx s' ∨ b (.int i) s = .ct s') ∧ P (i + 1) s') : ∃ s', forTurns b (rngD 0 n) s = .nx s' ∧ P n s' := by
  obtain ⟨s', e, p⟩ := for_inv P (rngD 0 n) s 0 h fun i d s e p => by
    obtain ⟨rfl, hi⟩ := rngD_at n 0 i d e
    rw [Int.zero_add, Nat.zero_add]
    rw [Nat.zero_add] at p
    exact st i s hi p
  rw [rngD_size, Nat.zero_add] at p
  exact ⟨s', e, p⟩
/-- one turn, its target's names forgotten -/
def forN (G : Prog) (cal : Nat → List D → Sto → CR) (i : Nat) (b : CB) (d : D) (s : S) : Fl := exb G cal b (setE s i (.va d))
def bindI : List Nat → List D → S → Option S
  | [], [], s => some s
  | i :: r, d :: ds, s => bindI r ds (setE s i (.va d))
  | _, _, _ => none
@[simp] theorem bindI_0 (s) : bindI [] [] s = some s := rfl
@[simp] theorem bindI_1 (i r d ds s) : bindI (i :: r) (d :: ds) s = bindI r ds (setE s i (.va d)) := rfl
theorem bindN_I : ∀ (l : List (Nat × Str × Pos)) (ds : List D) (s : S), bindN l ds s = bindI (l.map (·.1)) ds s
  | [], [], _ => rfl
  | [], _ :: _, _ => rfl
  | (_, _, _) :: _, [], _ => rfl
  | (i, _, _) :: r, d :: ds, s => bindN_I r ds _
def exO (G : Prog) (cal : Nat → List D → Sto → CR) (b : CB) (o : Option S) : Fl := match o with
  | some s => exb G cal b s
  | none => .bad
@[simp] theorem exO_s (G cal b s) : exO G cal b (some s) = exb G cal b s := rfl
def forT (G : Prog) (cal : Nat → List D → Sto → CR) (is : List Nat) (b : CB) (d : D) (s : S) : Fl := match d with
  | .tup ds => exO G cal b (bindI is ds s)
  | _ => .bad
@[simp] theorem forT_s (G cal is b ds s) : forT G cal is b (.tup ds) s = exO G cal b (bindI is ds s) := rfl
@[simp] theorem forN_s (G cal i b d s) : forN G cal i b d s = exb G cal b (setE s i (.va d)) := rfl
@[simp] theorem kFor_nm (G cal i x p b l s) : kFor G cal (.nm i x p) b l s = forTurns (forN G cal i b) l s := rfl
@[simp] theorem kFor_tp (G cal l k p b ds s) : kFor G cal (.tp l k p) b ds s = forTurns (forT G cal (l.map (·.1)) b) ds s := by
  rw [kFor_s]
  congr 1
  funext d s
  unfold forB
  cases d with
  | tup ds =>
    show (match bindN l ds s with | some s1 => _ | none => _) = exO G cal b (bindI _ ds s)
    rw [bindN_I]
    cases bindI (l.map (·.1)) ds s <;> rfl
  | _ => rfl
/-! turns one by one -/
def nextF (b : D → S → Fl) (ds : List D) (f : Fl) : Fl := match f with
  | .nx s1 => forTurns b ds s1
  | .ct s1 => forTurns b ds s1
  | .bk s1 => .nx s1
  | f => f
@[simp] theorem forTurns_nil (b s) : forTurns b [] s = .nx s := rfl
theorem forTurns_cons (b d ds s) : forTurns b (d :: ds) s = nextF b ds (b d s) := rfl
@[simp] theorem nextF_nx (b ds s) : nextF b ds (.nx s) = forTurns b ds s := rfl
@[simp] theorem nextF_ct (b ds s) : nextF b ds (.ct s) = forTurns b ds s := rfl
@[simp] theorem nextF_bk (b ds s) : nextF b ds (.bk s) = .nx s := rfl
@[simp] theorem nextF_rt (b ds r s) : nextF b ds (.rt r s) = .rt r s := rfl
@[simp] theorem nextF_ex (b ds c fs s) : nextF b ds (.ex c fs s) = .ex c fs s := rfl
@[simp] theorem nextF_bad (b ds) : nextF b ds .bad = .bad := rfl
@[simp] theorem nextF_if {p : Prop} [Decidable p] (b ds) (f g : Fl) : nextF b ds (if p then f else g) = if p then nextF b ds f else nextF b ds g := apply_ite _ _ _ _
/-! dicts -/
@[simp] theorem dkey_s (x : Str) : dkey (.str x) = some (.inl (.inr x)) := rfl
@[simp] theorem dkey_i (x : Int) : dkey (.int x) = some (.inl (.inl x)) := rfl
@[simp] theorem dget_nil (k) : dget k [] = none := rfl
theorem dget_cons (k a v r) : dget k ((a, v) :: r) = if dkey a = some k then some v else dget k r := by
  unfold dget
  rw [List.find?_cons]
  by_cases h : dkey a = some k
  · rw [if_pos h]; simp [h]
  · rw [if_neg h]; simp [h]
@[simp] theorem dget_ss (k x : Str) (v r) : dget (.inl (.inr k)) ((.str x, v) :: r) = if x = k then some v else dget (.inl (.inr k)) r := by
  rw [dget_cons]; simp
@[simp] theorem dget_ii (k x : Int) (v r) : dget (.inl (.inl k)) ((.int x, v) :: r) = if x = k then some v else dget (.inl (.inl k)) r := by
  rw [dget_cons]; simp
@[simp] theorem dputs_nil (a) : dputs a [] = some a := rfl
@[simp] theorem dputs_s (a) (x : Str) (v r) : dputs a ((.str x, v) :: r) = dputs (dput (.str x) (.inl (.inr x)) v a) r := rfl
@[simp] theorem dputs_i (a) (x : Int) (v r) : dputs a ((.int x, v) :: r) = dputs (dput (.int x) (.inl (.inl x)) v a) r := rfl
theorem atI_map {α : Type} (f : α → D) (l : List α) (i : Int) (h : 0 ≤ i) (h2 : i < l.length) : ∃ x, x ∈ l ∧ atI (l.map f) i = some (f x) := by
  have h3 : i.toNat < l.length := by omega
  refine ⟨l[i.toNat], List.getElem_mem h3, ?_⟩
  rw [atI_of h (by rw [List.length_map]; exact h2), List.getElem?_map, List.getElem?_eq_getElem h3]
  rfl
/-- a for that goes through, whatever the turn -/
theorem for_all {b : D → S → Fl} (P : S → Prop) : ∀ (l : List D) (s : S), P s → (∀ d, d ∈ l → ∀ s, P s → ∃ s', (b d s = .nx s' ∨ b d s = .ct s') ∧ P s') → ∃ s', forTurns b l s = .nx s' ∧ P s'
  | [], s, h, _ => ⟨s, rfl, h⟩
  | d :: ds, s, h, st => by
    obtain ⟨s1, e1, p1⟩ := st d (List.mem_cons_self ..) s h
    obtain ⟨s2, e2, p2⟩ := for_all P ds s1 p1 fun d' m => st d' (List.mem_cons_of_mem _ m)
    refine ⟨s2, ?_, p2⟩
    unfold forTurns
    rcases e1 with e1 | e1 <;> rw [e1] <;> exact e2
/-! defs as values, exceptions -/
section
variable (G : Prog) (cal : Nat → List D → Sto → CR)
def calv1 (es : CL) (x : Option Slot) (s : S) : Oc R := match x with
  | some (.va (.fn n)) => if (G.fns[n]?).isSome = true then (evL G cal es s).bind (kCall cal n) else .bad
  | _ => .bad
def isx1 (n : Nat) (x : Option Slot) (s : S) : Oc R := match x with
  | some (.xo c []) => if (G.cls[c]?).isSome = true then .ok (.va (.bl (G.sub c n))) s else .bad
  | _ => .bad
def rev1 (i : Nat) (x : Option Slot) (s : S) : Fl := match x with
  | some (.ol l) => .nx (setE s i (.ol l.reverse))
  | _ => .bad
def tryF (hs : CH) (f : Fl) : Fl := match f with
  | .ex c fs s1 => exh G cal hs c fs s1
  | f => f
def rvt1 (u : Option Vw) (s : S) : Oc R := match u with
  | some (.at (.tup l)) => .ok (.va (.tup l.reverse)) s
  | _ => .bad
def kRvt (x : R) (s : S) : Oc R := rvt1 (view s x) s
@[simp] theorem ev_rvt (a k p1 p2 p3 p s) : ev G cal (.rvt a k p1 p2 p3 p) s = (ev G cal a s).bind kRvt := rfl
@[simp] theorem kRvt_s (x s) : kRvt x s = rvt1 (view s x) s := rfl
@[simp] theorem rvt1_s (l s) : rvt1 (some (.at (.tup l))) s = .ok (.va (.tup l.reverse)) s := rfl
@[simp] theorem ev_fnv (n x p s) : ev G cal (.fnv n x p) s = .ok (.va (.fn n)) s := rfl
@[simp] theorem ev_calv (i x px es p s) : ev G cal (.calv i x px es p) s = calv1 G cal es s.env[i]? s := rfl
@[simp] theorem calv1_s (es n s) : calv1 G cal es (some (.va (.fn n))) s = if (G.fns[n]?).isSome = true then (evL G cal es s).bind (kCall cal n) else .bad := rfl
@[simp] theorem ev_isx (i x px pf n y py p s) : ev G cal (.isx i x px pf n y py p) s = isx1 G n s.env[i]? s := rfl
@[simp] theorem isx1_s (n c s) : isx1 G n (some (.xo c [])) s = if (G.cls[c]?).isSome = true then .ok (.va (.bl (G.sub c n))) s else .bad := rfl
@[simp] theorem exs_rev (i x px pa pc p s) : exs G cal (.rev i x px pa pc p) s = rev1 i s.env[i]? s := rfl
@[simp] theorem rev1_s (i l s) : rev1 i (some (.ol l)) s = .nx (setE s i (.ol l.reverse)) := rfl
@[simp] theorem exs_raise (n x px m j pm pc p s) : exs G cal (.raise_ n x px m j pm pc p) s = .ex n [] s := rfl
@[simp] theorem exs_try (b hs p s) : exs G cal (.try_ b hs p) s = tryF G cal hs (exb G cal b s) := by
  show (match exb G cal b s with | .ex c fs s1 => _ | f => f) = _
  cases exb G cal b s <;> rfl
@[simp] theorem tryF_nx (hs s) : tryF G cal hs (.nx s) = .nx s := rfl
@[simp] theorem tryF_rt (hs r s) : tryF G cal hs (.rt r s) = .rt r s := rfl
@[simp] theorem tryF_bk (hs s) : tryF G cal hs (.bk s) = .bk s := rfl
@[simp] theorem tryF_ct (hs s) : tryF G cal hs (.ct s) = .ct s := rfl
@[simp] theorem tryF_bad (hs) : tryF G cal hs .bad = .bad := rfl
@[simp] theorem tryF_ex (hs c fs s) : tryF G cal hs (.ex c fs s) = exh G cal hs c fs s := rfl
@[simp] theorem tryF_if {p : Prop} [Decidable p] (hs) (f g : Fl) : tryF G cal hs (if p then f else g) = if p then tryF G cal hs f else tryF G cal hs g := apply_ite _ _ _ _
@[simp] theorem exh_nil (c fs s) : exh G cal .nil c fs s = .ex c fs s := rfl
@[simp] theorem exh_cons (n x px c1 su p r c fs s) : exh G cal (.cons n x px c1 su p r) c fs s = if (G.cls[c]?).isSome = true then (if G.sub c n = true then aftS (seqF G cal su (exs G cal c1 s)) else exh G cal r c fs s) else .bad := by
  show (if (G.cls[c]?).isSome = true then (if G.sub c n = true then aftS (match exs G cal c1 s with | .nx s1 => _ | f => f) else _) else _) = _
  unfold seqF
  rfl
@[simp] theorem exh_as (n x px i y c1 su p c fs s) : exh G cal (.as_ n x px i y c1 su p) c fs s = if (G.cls[c]?).isSome = true then (if G.sub c n = true then aftA i (seqF G cal su (exs G cal c1 (setE s i (.xo c fs)))) else .ex c fs s) else .bad := by
  show (if (G.cls[c]?).isSome = true then (if G.sub c n = true then aftA i (match exs G cal c1 _ with | .nx s1 => _ | f => f) else _) else _) = _
  unfold seqF
  rfl
end
@[simp] theorem aftS_nx (s) : aftS (.nx s) = if noXo s.env = true then .nx s else .bad := rfl
@[simp] theorem aftA_nx (i s) : aftA i (.nx s) = if noXo (s.env.set i .no) = true then .nx (setE s i .no) else .bad := rfl
@[simp] theorem noXo_nil : noXo [] = true := rfl
@[simp] theorem noXo_no (l) : noXo (.no :: l) = noXo l := rfl
@[simp] theorem noXo_va (d l) : noXo (.va d :: l) = noXo l := rfl
@[simp] theorem noXo_ol (d l) : noXo (.ol d :: l) = noXo l := rfl
@[simp] theorem noXo_od (t d l) : noXo (.od t d :: l) = noXo l := rfl
@[simp] theorem call2_ex (c fs st env) : call2 (.ex c fs st) env = .ex c fs ⟨env, st⟩ := rfl
end BB

namespace BB
open PySem PySem.Spec PyProof.Rows L2
/-! texts as lists of signs -/
def tx (l : List Nat) : Str := ⟨l.toArray⟩
@[simp] theorem cs_tx (l : List Nat) : cs (tx l) = l := rfl
@[simp] theorem tx_cs (x : Str) : tx (cs x) = x := by cases x; rfl
theorem cs_inj {x y : Str} (h : cs x = cs y) : x = y := by rw [← tx_cs x, h, tx_cs]
@[simp] theorem cs_app (x y : Str) : cs (x ++ y) = cs x ++ cs y := Array.toList_append
theorem len_cs (x : Str) : x.length = (cs x).length := rfl
theorem len_app (x y : Str) : (x ++ y).length = x.length + y.length := by rw [len_cs, cs_app, List.length_append]; rfl
def splitL (c : Nat) : List Nat → List (List Nat)
  | [] => [[]]
  | x :: xs => if x = c then [] :: splitL c xs else match splitL c xs with
    | h :: t => (x :: h) :: t
    | [] => [[x]]
theorem splitL_ne (c : Nat) : ∀ l, ∃ h t, splitL c l = h :: t
  | [] => ⟨_, _, rfl⟩
  | x :: xs => by
    unfold splitL
    by_cases e : x = c
    · rw [if_pos e]; exact ⟨_, _, rfl⟩
    · rw [if_neg e]
      obtain ⟨h, t, q⟩ := splitL_ne c xs
      rw [q]
      exact ⟨_, _, rfl⟩
theorem splitL_free (c : Nat) : ∀ l, c ∉ l → splitL c l = [l]
  | [], _ => rfl
  | x :: xs, n => by
    unfold splitL
    rw [if_neg (fun e => n (by rw [e]; exact List.mem_cons_self ..)), splitL_free c xs fun m => n (List.mem_cons_of_mem _ m)]
theorem splitL_app (c : Nat) (r : List Nat) : ∀ l, c ∉ l → splitL c (l ++ c :: r) = l :: splitL c r
  | [], _ => by
    show splitL c (c :: r) = _
    rw [splitL, if_pos rfl]
  | x :: xs, n => by
    show splitL c (x :: (xs ++ c :: r)) = _
    rw [splitL, if_neg (fun e => n (by rw [e]; exact List.mem_cons_self ..)), splitL_app c r xs fun m => n (List.mem_cons_of_mem _ m)]
theorem splitL_len (c : Nat) : ∀ l, (splitL c l).length = l.count c + 1
  | [] => rfl
  | x :: xs => by
    rw [splitL]
    by_cases e : x = c
    · rw [if_pos e, e, List.count_cons_self, List.length_cons, splitL_len c xs]
    · rw [if_neg e, List.count_cons_of_ne (by simpa using e)]
      obtain ⟨h, t, q⟩ := splitL_ne c xs
      have := splitL_len c xs
      rw [q] at this ⊢
      simpa using this
theorem split_uniq (c : Nat) : ∀ (ps : List Str), ps ≠ [] → (∀ p ∈ ps, c ∉ cs p) → splitL c (cs (Str.join ⟨#[c]⟩ ps)) = ps.map cs
  | [], h, _ => absurd rfl h
  | [p], _, f => splitL_free c _ (f p (List.mem_cons_self ..))
  | p :: q :: r, _, f => by
    show splitL c (cs (p ++ ⟨#[c]⟩ ++ Str.join ⟨#[c]⟩ (q :: r))) = _
    rw [cs_app, cs_app]
    show splitL c (cs p ++ [c] ++ _) = _
    rw [List.append_assoc]
    show splitL c (cs p ++ c :: cs (Str.join ⟨#[c]⟩ (q :: r))) = _
    rw [splitL_app c _ _ (f p (List.mem_cons_self ..)), split_uniq c (q :: r) (by simp) fun p m => f p (List.mem_cons_of_mem _ m)]
    rfl
theorem split_cs (x : Str) (c : Nat) : (Txt.split x ⟨#[c]⟩).map cs = splitL c (cs x) := by
  have h := split_uniq c (Txt.split x ⟨#[c]⟩) (fun e => by have := split_pos x ⟨#[c]⟩; rw [e] at this; cases this) (StrLaws.split_free x c)
  rw [StrLaws.join_split] at h
  exact h.symm
theorem split_eq (x : Str) (c : Nat) : Txt.split x ⟨#[c]⟩ = (splitL c (cs x)).map tx := by
  rw [← split_cs, List.map_map]
  have : (tx ∘ cs) = id := funext fun x => tx_cs x
  rw [this, List.map_id]
theorem split_len (x : Str) (c : Nat) : (Txt.split x ⟨#[c]⟩).length = (cs x).count c + 1 := by
  rw [split_eq, List.length_map, splitL_len]
theorem count_cs (x : Str) (c : Nat) : Txt.count x ⟨#[c]⟩ = ((cs x).count c : Nat) := by
  have h := split_len x c
  unfold Txt.split at h
  unfold Txt.count
  by_cases h1 : c ∈ cs x
  · have h3 : (Txt.split x ⟨#[c]⟩).length ≠ 1 := by
      rw [split_len]
      have := List.count_pos_iff.mpr h1
      omega
    split at h
    · rename_i h2
      unfold Txt.split at h3
      rw [if_pos h2] at h3
      exact absurd rfl h3
    · split at h
      · rename_i h2 h4
        unfold Txt.split at h3
        rw [if_neg h2, if_pos h4] at h3
        exact absurd rfl h3
      · rw [len_partsBetween] at h
        congr 1
        omega
  · rw [List.count_eq_zero_of_not_mem h1]
    have e : Builtin.Str.occurrences x ⟨#[c]⟩ 0 x.length (x.length + 1) = [] := by
      cases q : Builtin.Str.occurrences x ⟨#[c]⟩ 0 x.length (x.length + 1) with
      | nil => rfl
      | cons i r =>
        have := StrLaws.occ_spec x ⟨#[c]⟩ 0 x.length (x.length + 1) i (by rw [q]; exact List.mem_cons_self ..)
        exfalso
        apply h1
        obtain ⟨h5, h6⟩ := this
        have h7 := StrLaws.found_one x c
        have h8 := (StrLaws.found_iff x ⟨#[c]⟩).mpr ⟨i, h5, h6⟩
        rw [h7] at h8
        exact of_decide_eq_true h8
    rw [e]; rfl
theorem splitL_le (c : Nat) : ∀ (l p : List Nat), p ∈ splitL c l → p.length ≤ l.length
  | [], p, h => by cases List.mem_singleton.mp h; exact Nat.le_refl _
  | x :: xs, p, h => by
    rw [splitL] at h
    rw [List.length_cons]
    by_cases e : x = c
    · rw [if_pos e] at h
      rcases List.mem_cons.mp h with rfl | h
      · exact Nat.zero_le _
      · have := splitL_le c xs p h; omega
    · rw [if_neg e] at h
      obtain ⟨a, t, q⟩ := splitL_ne c xs
      have ih := splitL_le c xs
      rw [q] at h ih
      rcases List.mem_cons.mp h with rfl | h
      · have := ih a (List.mem_cons_self ..); rw [List.length_cons]; omega
      · have := ih p (List.mem_cons_of_mem _ h); omega
theorem len_tx (l : List Nat) : (tx l).length = l.length := rfl
theorem split_two {x : Str} {c : Nat} (h : (cs x).count c = 1) : ∃ a b, splitL c (cs x) = [a, b] ∧ Txt.split x ⟨#[c]⟩ = [tx a, tx b] ∧ a.length ≤ x.length ∧ b.length ≤ x.length := by
  have h2 := splitL_len c (cs x)
  rw [h] at h2
  match q : splitL c (cs x), h2 with
  | [a, b], _ =>
    exact ⟨a, b, rfl, by rw [split_eq, q]; rfl, splitL_le c (cs x) a (by rw [q]; simp), splitL_le c (cs x) b (by rw [q]; simp)⟩
end BB

namespace BB
open PySem PySem.Spec PyProof.Rows L2
section
variable (G : Prog) (cal : Nat → List D → Sto → CR)
/-! comprehensions -/
def lcE1 (own : List (Str × Nat)) (r : Option D) (s : S) : Oc (Option D) := match r with
  | some y => .ok (some y) (wipeE s (own.map (·.2)))
  | none => .bad
def kLcE (own : List (Str × Nat)) (r : R) (s : S) : Oc (Option D) := lcE1 own (keepR r) s
def kLcT (elt : C) (own : List (Str × Nat)) (t : Bool) (s : S) : Oc (Option D) := if t = true then (ev G cal elt s).bind (kLcE own) else .ok none (wipeE s (own.map (·.2)))
def lcO (elt : C) (ifs : CL) (own : List (Str × Nat)) (o : Option S) : Oc (Option D) := match o with
  | some s => (evIfs G cal ifs s).bind (kLcT G cal elt own)
  | none => .bad
@[simp] theorem kLcE_s (own r s) : kLcE own r s = lcE1 own (keepR r) s := rfl
@[simp] theorem lcE1_s (own y s) : lcE1 own (some y) s = .ok (some y) (wipeE s (own.map (·.2))) := rfl
@[simp] theorem kLcT_s (elt own t s) : kLcT G cal elt own t s = if t = true then (ev G cal elt s).bind (kLcE own) else .ok none (wipeE s (own.map (·.2))) := rfl
@[simp] theorem lcO_s (elt ifs own s) : lcO G cal elt ifs own (some s) = (evIfs G cal ifs s).bind (kLcT G cal elt own) := rfl
@[simp] theorem wipeE_0 (s) : wipeE s [] = s := rfl
@[simp] theorem wipeE_1 (s i r) : wipeE s (i :: r) = setE (wipeE s r) i .no := rfl
def lcD (is : List Nat) (elt : C) (ifs : CL) (own : List (Str × Nat)) (d : D) (s : S) : Oc (Option D) := match d with
  | .tup ds => lcO G cal elt ifs own (bindI is ds s)
  | _ => .bad
def lcN (i : Nat) (elt : C) (ifs : CL) (own : List (Str × Nat)) (d : D) (s : S) : Oc (Option D) := (evIfs G cal ifs (setE s i (.va d))).bind (kLcT G cal elt own)
@[simp] theorem lcN_s (i elt ifs own d s) : lcN G cal i elt ifs own d s = (evIfs G cal ifs (setE s i (.va d))).bind (kLcT G cal elt own) := rfl
@[simp] theorem lcD_s (is elt ifs own ds s) : lcD G cal is elt ifs own (.tup ds) s = lcO G cal elt ifs own (bindI is ds s) := rfl
theorem lcB_tail (elt own) : (fun t s2 => if t = true then (ev G cal elt s2).bind fun r s3 => (match keepR r with
      | some y => .ok (some y) (wipeE s3 (own.map (·.2)))
      | none => .bad) else .ok none (wipeE s2 (own.map (·.2)))) = kLcT G cal elt own := by
  funext t s2
  unfold kLcT
  by_cases h : t = true
  · rw [if_pos h, if_pos h]
    congr 1
  · rw [if_neg h, if_neg h]
@[simp] theorem kLc_nm (elt i x p ifs own l s) : kLc G cal elt (.nm i x p) ifs own l s = (lcTurns (lcN G cal i elt ifs own) l [] (wipeE s (own.map (·.2)))).bind kFl := by
  rw [kLc_s]
  congr 2
@[simp] theorem kLc_tp (elt t k p ifs own l s) : kLc G cal elt (.tp t k p) ifs own l s = (lcTurns (lcD G cal (t.map (·.1)) elt ifs own) l [] (wipeE s (own.map (·.2)))).bind kFl := by
  rw [kLc_s]
  congr 2
  funext d s
  cases d with
  | tup ds =>
    show (match bindN t ds s with | none => Oc.bad | some s1 => (evIfs G cal ifs s1).bind (kLcT G cal elt own)) = lcO G cal elt ifs own (bindI (t.map (·.1)) ds s)
    rw [bindN_I]
    cases bindI (t.map (·.1)) ds s <;> rfl
  | _ => rfl
end
theorem lc_acc {α : Type} {b : D → S → Oc (Option D)} {s : S} (g : α → D) (f : α → D) : ∀ (m : List α) (acc : List D), (∀ a, a ∈ m → b (g a) s = .ok (some (f a)) s) → acc.length + m.length ≤ 16777216 → lcTurns b (m.map g) acc s = .ok (acc ++ m.map f) s
  | [], acc, _, _ => by rw [List.map_nil, List.map_nil, List.append_nil]; rfl
  | a :: m, acc, h, hl => by
    rw [List.length_cons] at hl
    show (match b (g a) s with
      | .ok none s1 => _
      | .ok (some y) s1 => if acc.length < sizeLine then lcTurns b (m.map g) (acc ++ [y]) s1 else .bad
      | _ => _) = _
    rw [h a (List.mem_cons_self ..)]
    dsimp only
    rw [if_pos (by rw [sizeLine_eq]; omega), lc_acc g f m (acc ++ [f a]) (fun a q => h a (List.mem_cons_of_mem _ q)) (by rw [List.length_append]; show acc.length + 1 + m.length ≤ _; omega)]
    simp
/-- a comprehension without ifs -/
theorem lc_map {α : Type} {b : D → S → Oc (Option D)} {s : S} {g : α → D} (f : α → D) {m : List α} (h : ∀ a, a ∈ m → b (g a) s = .ok (some (f a)) s) (hl : m.length ≤ 16777216) : lcTurns b (m.map g) [] s = .ok (m.map f) s := by
  rw [lc_acc g f m [] h (by simpa using hl)]; rfl
theorem bi_all_map {α : Type} (f : α → Bool) (l : List α) : biV .all [.ls (l.map fun a => .bl (f a))] = some (.va (.bl (l.all f))) := by
  have e : ∀ l : List α, blsD (l.map fun a => D.bl (f a)) = some (l.map f) := fun l => by
    induction l with
    | nil => rfl
    | cons a l ih => rw [List.map_cons, blsD, ih]; rfl
  show (blsD _).map _ = _
  rw [e]
  show some (R.va (.bl ((l.map f).all id))) = _
  rw [List.all_map]
  rfl
theorem bi_any_map {α : Type} (f : α → Bool) (l : List α) : biV .any [.ls (l.map fun a => .bl (f a))] = some (.va (.bl (l.any f))) := by
  have e : ∀ l : List α, blsD (l.map fun a => D.bl (f a)) = some (l.map f) := fun l => by
    induction l with
    | nil => rfl
    | cons a l ih => rw [List.map_cons, blsD, ih]; rfl
  show (blsD _).map _ = _
  rw [e]
  show some (R.va (.bl ((l.map f).any id))) = _
  rw [List.any_map]
  rfl
/-! types -/
def isi1 (t : Option String) (u : String) : Option R := match t with
  | some t => if u ∈ ["str", "int", "bool", "tuple", "list", "dict"] then some (.va (.bl (isiW t u))) else none
  | none => none
@[simp] theorem bi_isi (v : Vw) (u : String) : biV .isi [v, .at (.ty u)] = isi1 (tyW v) u := by
  show (if u ∈ _ then (tyW v).map _ else none) = _
  unfold isi1
  cases tyW v with
  | none => split <;> rfl
  | some t => rfl
@[simp] theorem isi1_s (t u) : isi1 (some t) u = if u ∈ ["str", "int", "bool", "tuple", "list", "dict"] then some (.va (.bl (isiW t u))) else none := rfl
@[simp] theorem tyW_non : tyW (.at .non) = some "NoneType" := rfl
@[simp] theorem tyW_bl (b) : tyW (.at (.bl b)) = some "bool" := rfl
@[simp] theorem tyW_int (b) : tyW (.at (.int b)) = some "int" := rfl
@[simp] theorem tyW_str (b) : tyW (.at (.str b)) = some "str" := rfl
@[simp] theorem tyW_tup (b) : tyW (.at (.tup b)) = some "tuple" := rfl
@[simp] theorem tyW_ls (b) : tyW (.ls b) = some "list" := rfl
@[simp] theorem tyW_dc (t b) : tyW (.dc t b) = some "dict" := rfl
@[simp] theorem isiW_s (t u : String) : isiW t u = (decide (t = u) || (decide (t = "bool") && decide (u = "int"))) := rfl
/-! texts -/
@[simp] theorem mt_count (a b) : mtV .count (.at (.str a)) [.at (.str b)] = some (.va (.int (Txt.count a b))) := rfl
@[simp] theorem mt_split (a b : Str) : mtV .split (.at (.str a)) [.at (.str b)] = if (b.length == 0) = false ∧ a.length + 2 ≤ 16777216 then some (.fl ((Txt.split a b).map .str)) else none := rfl
@[simp] theorem in_sign (c : Nat) (z : Str) : inW (.at (.str ⟨#[c]⟩)) (.at (.str z)) = some (decide (c ∈ cs z)) := rfl
theorem at_lit : Str.ofString "@" = (⟨#[64]⟩ : Str) := by decide +kernel
theorem sp_lit : Str.ofString " " = (⟨#[32]⟩ : Str) := by decide +kernel
@[simp] theorem is_bb (a b : Bool) : isW (.at (.bl a)) (.at (.bl b)) = some (decide (a = b)) := rfl
@[simp] theorem is_nn : isW (.at .non) (.at .non) = some true := rfl
@[simp] theorem is_in (i : Int) : isW (.at (.int i)) (.at .non) = some false := rfl
@[simp] theorem is_sn (i : Str) : isW (.at (.str i)) (.at .non) = some false := rfl
@[simp] theorem is_bn (i : Bool) : isW (.at (.bl i)) (.at .non) = some false := rfl
@[simp] theorem is_tn (i) : isW (.at (.tup i)) (.at .non) = some false := rfl
@[simp] theorem is_ln (i) : isW (.ls i) (.at .non) = some false := rfl
@[simp] theorem is_dn (t i) : isW (.dc t i) (.at .non) = some false := rfl
/-! people -/
def LET : List Nat := [97, 98, 99, 100, 101, 102, 103, 104, 105, 106, 107, 108, 109, 110, 111, 112, 113, 114, 115, 116, 117, 118, 119, 120, 121, 122]
def SIG : List Nat := LET ++ [48, 49, 50, 51, 52, 53, 54, 55, 56, 57, 45]
theorem let_lit : cs (Str.ofString "abcdefghijklmnopqrstuvwxyz") = LET := by decide +kernel
theorem sig_lit : cs (Str.ofString "abcdefghijklmnopqrstuvwxyz" ++ Str.ofString "0123456789-") = SIG := by decide +kernel
def isOf (x : Str) (m : Int) (z : Str) : Bool := decide (1 ≤ (x.length : Int)) && decide ((x.length : Int) ≤ m) && (cs x).all fun c => decide (c ∈ cs z)
def nameL (l : List Nat) : Bool := decide (1 ≤ l.length) && decide (l.length ≤ 8) && l.all fun c => decide (c ∈ SIG)
def houseL (l : List Nat) : Bool := decide (1 ≤ l.length) && decide (l.length ≤ 6) && l.all fun c => decide (c ∈ LET)
def personL (l : List Nat) : Bool := match splitL 64 l with
  | [a, b] => nameL a && houseL b
  | _ => false
theorem isOf_house (x : Str) : isOf x 6 (Str.ofString "abcdefghijklmnopqrstuvwxyz") = houseL (cs x) := by
  unfold isOf houseL
  rw [let_lit, len_cs]
  congr 1
  congr 1
  · exact decide_eq_decide.mpr (by omega)
  · exact decide_eq_decide.mpr (by omega)
theorem isOf_name (x : Str) : isOf x 8 (Str.ofString "abcdefghijklmnopqrstuvwxyz" ++ Str.ofString "0123456789-") = nameL (cs x) := by
  unfold isOf nameL
  rw [sig_lit, len_cs]
  congr 1
  congr 1
  · exact decide_eq_decide.mpr (by omega)
  · exact decide_eq_decide.mpr (by omega)
theorem personL_no {l : List Nat} (h : ¬ l.count 64 = 1) : personL l = false := by
  unfold personL
  have h2 := splitL_len 64 l
  split
  · rename_i a b q
    rw [q] at h2
    simp at h2
    omega
  · rfl
/-! turns of a comprehension, one by one -/
def lcNext (b : D → S → Oc (Option D)) (ds acc : List D) (o : Oc (Option D)) : Oc (List D) := match o with
  | .ok none s1 => lcTurns b ds acc s1
  | .ok (some y) s1 => if acc.length < sizeLine then lcTurns b ds (acc ++ [y]) s1 else .bad
  | _ => .bad
@[simp] theorem lcTurns_nil (b acc s) : lcTurns b [] acc s = .ok acc s := rfl
theorem lcTurns_cons (b d ds acc s) : lcTurns b (d :: ds) acc s = lcNext b ds acc (b d s) := rfl
@[simp] theorem lcNext_n (b ds acc s) : lcNext b ds acc (.ok none s) = lcTurns b ds acc s := rfl
@[simp] theorem lcNext_s (b ds acc y s) : lcNext b ds acc (.ok (some y) s) = if acc.length < 16777216 then lcTurns b ds (acc ++ [y]) s else .bad := rfl
@[simp] theorem blsD_n : blsD [] = some [] := rfl
@[simp] theorem blsD_c (b ds) : blsD (.bl b :: ds) = (blsD ds).map (b :: ·) := by
  rw [blsD]; cases blsD ds <;> rfl
@[simp] theorem blsD_map {α : Type} (f : α → Bool) : ∀ l : List α, blsD (l.map fun a => D.bl (f a)) = some (l.map f)
  | [] => rfl
  | a :: l => by rw [List.map_cons, blsD, blsD_map f l]; rfl
@[simp] theorem bi_any (l) : biV .any [.ls l] = (blsD l).map fun is => .va (.bl (is.any id)) := rfl
@[simp] theorem bi_all (l) : biV .all [.ls l] = (blsD l).map fun is => .va (.bl (is.all id)) := rfl
@[simp] theorem bi_sum (l) : biV .sum [.ls l] = (intsD l).map fun is => .va (.int is.sum) := rfl
@[simp] theorem ix_str (z : Str) (i : Int) : ixV (.at (.str z)) (.at (.int i)) = if z.length ≤ 16777216 then (atI (cs z) i).map fun c => .str ⟨#[c]⟩ else none := rfl
@[simp] theorem atI_m1 {α : Type} (l : List α) : atI l (-1) = l.getLast? := by
  unfold atI ixN
  rw [if_neg (by omega)]
  cases l with
  | nil => rfl
  | cons a r =>
    rw [if_pos (by rw [List.length_cons]; omega), List.getLast?_eq_getElem?]
    show (a :: r)[((-1 : Int) + ((a :: r).length : Int)).toNat]? = _
    congr 1
    rw [List.length_cons]; omega
theorem atI_mem {α : Type} (l : List α) (i : Int) (h : 0 ≤ i) (h2 : i < l.length) : ∃ x, x ∈ l ∧ atI l i = some x := by
  have h3 : i.toNat < l.length := by omega
  exact ⟨l[i.toNat], List.getElem_mem h3, by rw [atI_of h h2, List.getElem?_eq_getElem h3]⟩
@[simp] theorem sign_eq (a b : Nat) : ((⟨#[a]⟩ : Str) = ⟨#[b]⟩) ↔ a = b := ⟨fun h => by injection h with h; simpa using h, fun h => by rw [h]⟩
theorem log_lt {i : Int} {n : Nat} (h : i.natAbs < 2 ^ n) (hn : 0 < n) : i.natAbs.log2 < n := by
  by_cases e : i.natAbs = 0
  · rw [e]; simpa using hn
  · exact (Nat.log2_lt e).mpr h
end BB

namespace BB
open PySem PySem.Spec PyProof.Rows L2
/-! texts joined -/
theorem rngD_map (n : Nat) : ∀ lo : Nat, rngD (lo : Int) n = (List.range' lo n).map fun i : Nat => D.int (i : Int) := by
  induction n with
  | zero => intro lo; rfl
  | succ n ih =>
    intro lo
    show D.int lo :: rngD ((lo : Int) + 1) n = _
    have := ih (lo + 1)
    rw [show ((lo + 1 : Nat) : Int) = (lo : Int) + 1 by omega] at this
    rw [this, List.range'_succ, List.map_cons]
theorem rngD_range (n : Nat) : rngD 0 n = (List.range n).map fun i : Nat => D.int (i : Int) := by
  have := rngD_map n 0
  rw [show ((0 : Nat) : Int) = 0 from rfl] at this
  rw [this, List.range_eq_range']
@[simp] theorem strsD_map {α : Type} (f : α → Str) : ∀ l : List α, strsD (l.map fun a => D.str (f a)) = some (l.map f)
  | [] => rfl
  | a :: l => by rw [List.map_cons, strsD, strsD_map f l]; rfl
@[simp] theorem strsD_n : strsD [] = some [] := rfl
@[simp] theorem strsD_c (x ds) : strsD (.str x :: ds) = (strsD ds).map (x :: ·) := by
  rw [strsD]; cases strsD ds <;> rfl
def join1 (a : Str) (ys : Option (List Str)) : Option R := match ys with
  | some ys => if (ys.map (·.length)).sum + ys.length * a.length ≤ 16777216 then some (.va (.str (Txt.join a ys))) else none
  | none => none
@[simp] theorem mt_join (a l) : mtV .join (.at (.str a)) [.ls l] = join1 a (strsD l) := by
  show (match strsD l with | some ys => _ | none => _) = _
  cases strsD l <;> rfl
theorem join1_s {a : Str} {ys : List Str} (h : (ys.map (·.length)).sum + ys.length * a.length ≤ 16777216) : join1 a (some ys) = some (.va (.str (Txt.join a ys))) := if_pos h
theorem join_eq (a : Str) (ys : List Str) : Txt.join a ys = Str.join a ys := StrLaws.glued_eq_join a ys
theorem cs_join (a : Str) : ∀ ys : List Str, cs (Txt.join a ys) = ((ys.map cs).intersperse (cs a)).flatten
  | [] => by rw [join_eq]; rfl
  | [x] => by rw [join_eq]; show cs x = _; simp
  | x :: y :: r => by
    have ih := cs_join a (y :: r)
    rw [join_eq] at ih ⊢
    show cs (x ++ a ++ Str.join a (y :: r)) = _
    rw [cs_app, cs_app, ih]
    simp [List.intersperse]
theorem cs_join0 (ys : List Str) : cs (Txt.join (Str.ofString "") ys) = (ys.map cs).flatten := by
  have e : Str.ofString "" = (⟨#[]⟩ : Str) := by decide +kernel
  rw [e]
  induction ys with
  | nil => rw [join_eq]; rfl
  | cons x r ih =>
    cases r with
    | nil => rw [join_eq]; show cs x = _; simp
    | cons y r =>
      rw [join_eq] at ih ⊢
      show cs (x ++ ⟨#[]⟩ ++ Str.join ⟨#[]⟩ (y :: r)) = _
      rw [cs_app, cs_app, ih]
      show cs x ++ [] ++ _ = _
      simp
/-- a text joined by a sign that stands in none of its words, split there -/
theorem split_join {c : Nat} {ys : List Str} (h : ys ≠ []) (f : ∀ y ∈ ys, c ∉ cs y) : Txt.split (Txt.join ⟨#[c]⟩ ys) ⟨#[c]⟩ = ys := by
  rw [split_eq, join_eq, split_uniq c ys h f, List.map_map]
  have : (tx ∘ cs) = id := funext fun x => tx_cs x
  rw [this, List.map_id]
/-! numbers -/
theorem cs_num (n : Nat) : cs (Str.ofString (n : Int).repr) = TL.numL n := TL.tl_num n
theorem num_free {n c : Nat} (h : c < 48 ∨ 57 < c) : c ∉ cs (Str.ofString (n : Int).repr) := by rw [cs_num]; exact TL.numL_free h
theorem numL_head : ∀ n : Nat, 0 < n → (TL.numL n)[0]? ≠ some 48
  | n, h => by
    by_cases h10 : n < 10
    · rw [TL.numL_lt h10]; simp; omega
    · have ih := numL_head (n / 10) (by omega)
      rw [TL.numL_step (by omega)]
      cases q : TL.numL (n / 10) with
      | nil => exact absurd q (TL.numL_ne _)
      | cons a l => rw [q] at ih; simpa using ih
theorem digits_lt : ∀ (l : List Nat) (a : Nat), NumText.AllDigits l → l.foldl (fun acc c => acc * 10 + (c - 48)) a < (a + 1) * 10 ^ l.length
  | [], a, _ => by simp
  | c :: l, a, h => by
    have ih := digits_lt l (a * 10 + (c - 48)) h.tail
    have hc := h.head
    rw [List.foldl_cons, List.length_cons, Nat.pow_succ]
    refine Nat.lt_of_lt_of_le ih ?_
    have : a * 10 + (c - 48) + 1 ≤ (a + 1) * 10 := by omega
    calc (a * 10 + (c - 48) + 1) * 10 ^ l.length ≤ ((a + 1) * 10) * 10 ^ l.length := Nat.mul_le_mul_right _ this
      _ = (a + 1) * (10 ^ l.length * 10) := by rw [Nat.mul_assoc, Nat.mul_comm 10]
theorem digitsVal_lt {l : List Nat} (h : NumText.AllDigits l) : NumText.digitsVal l < 10 ^ l.length := by
  have := digits_lt l 0 h
  rwa [Nat.zero_add, Nat.one_mul] at this
/-! one thing compared with itself -/
theorem eqW_refl {u : Vw} {p : PyData} (hs : u.scal = none) (h : u.toP = some p) (hp : SeqAt.shaped p = true) : eqW u u = some true := by
  unfold eqW
  rw [hs, h]
  dsimp only
  rw [if_pos ⟨hp, hp⟩, SeqAt.eqv_refl p (SeqAt.canLay_of_shaped hp)]
def int1 (x : Str) (n : Option Int) : Option R := match n with
  | some n => if x.length ≤ 640 then some (.va (.int n)) else none
  | none => none
@[simp] theorem bi_ints (x) : biV .int [.at (.str x)] = int1 x (PySem.intText? x) := by
  show (match PySem.intText? x with | some n => _ | none => _) = _
  cases PySem.intText? x <;> rfl
@[simp] theorem int1_s (x n) : int1 x (some n) = if x.length ≤ 640 then some (.va (.int n)) else none := rfl
@[simp] theorem bi_strn : biV .str [.at .non] = some (.va (.str "None")) := rfl
@[simp] theorem sl_str (z : Str) (lo hi) : slV (.at (.str z)) lo hi = if z.length ≤ 16777216 then some (.va (.str (cutS z lo hi))) else none := rfl
theorem cutS_cs (z : Str) (lo hi : Option Int) : cs (cutS z lo hi) = ((cs z).drop (HT.sIx z.length 0 lo)).take (HT.sIx z.length z.length hi - HT.sIx z.length 0 lo) := rfl
theorem cutS_to (z : Str) (n : Nat) : cs (cutS z none (some (n : Int))) = (cs z).take n := by
  rw [cutS_cs, HT.sIx_nat]
  show ((cs z).drop 0).take (min n z.length - 0) = _
  rw [List.drop_zero, Nat.sub_zero]
  have h : z.length = (cs z).length := rfl
  rcases Nat.le_total n z.length with q | q
  · rw [Nat.min_eq_left q]
  · rw [Nat.min_eq_right q, h, List.take_length, List.take_of_length_le (by omega)]
theorem cutS_from (z : Str) (n : Nat) : cs (cutS z (some (n : Int)) none) = (cs z).drop n := by
  rw [cutS_cs, HT.sIx_nat]
  show ((cs z).drop (min n z.length)).take (z.length - min n z.length) = _
  have h : z.length = (cs z).length := rfl
  rw [List.take_of_length_le (by rw [List.length_drop, ← h]; omega)]
  rcases Nat.le_total n z.length with q | q
  · rw [Nat.min_eq_left q]
  · rw [Nat.min_eq_right q, h, List.drop_length, List.drop_eq_nil_of_le (by omega)]
theorem intText_cs {x : Str} {l : List Nat} (e : cs x = l) (h : NumText.AllDigits l) (h1 : l ≠ []) (h2 : l.length ≤ 640) : PySem.intText? x = some ((NumText.digitsVal l : Nat) : Int) := by
  subst e
  exact PySem.intText_digits h h1 (by show (cs x).length ≤ 4300; omega)
theorem lc_id {b : D → S → Oc (Option D)} {s : S} (f : D → D) {m : List D} (h : ∀ a, a ∈ m → b a s = .ok (some (f a)) s) (hl : m.length ≤ 16777216) : lcTurns b m [] s = .ok (m.map f) s := by
  have := lc_map (g := id) f h hl
  rwa [List.map_id] at this
/-- what is written for a part -/
def partS : D → Str
  | .str x => x
  | .int n => Str.ofString n.repr
  | _ => Str.ofString "-"
def OkPart (d : D) : Prop := d = .non ∨ (∃ x : Str, d = .str x ∧ x.length ≤ 100 ∧ ∀ s ∈ cs x, s < 1114112) ∨ ∃ n : Nat, d = .int (n : Int) ∧ n < 10 ^ 20
theorem OkPart.len {d : D} (h : OkPart d) : (partS d).length ≤ 100 := by
  rcases h with rfl | ⟨x, rfl, h⟩ | ⟨n, rfl, h⟩
  · decide +kernel
  · exact h.1
  · show (cs _).length ≤ 100
    show (cs (Str.ofString (n : Int).repr)).length ≤ 100
    rw [cs_num]
    have := TL.numL_len (n := n) (k := 20) (by decide) h
    omega
theorem parts_sum : ∀ ds : List D, (∀ d ∈ ds, OkPart d) → ((ds.map partS).map (·.length)).sum ≤ 100 * ds.length
  | [], _ => Nat.zero_le _
  | d :: ds, h => by
    have h1 := parts_sum ds fun x m => h x (List.mem_cons_of_mem _ m)
    have h2 := (h d (List.mem_cons_self ..)).len
    rw [List.map_cons, List.map_cons, List.sum_cons, List.length_cons]
    omega
theorem parts_join (ds : List D) (h : ∀ d ∈ ds, OkPart d) (hl : ds.length ≤ 10000) : join1 (Str.ofString " ") (some (ds.map partS)) = some (.va (.str (Txt.join (Str.ofString " ") (ds.map partS)))) := by
  have h1 := parts_sum ds h
  have e : (Str.ofString " ").length = 1 := by decide +kernel
  exact join1_s (by rw [e, List.length_map]; omega)
theorem num_log {n : Nat} (h : n < 10 ^ 20) : n.log2 < 1920 := by
  have := Nat.lt_of_lt_of_le (log_lt (i := (n : Int)) (n := 70) (by omega) (by decide)) (show 70 ≤ 1920 by decide)
  rwa [Int.natAbs_natCast] at this
theorem join_free {a c : Nat} (h : c ≠ a) : ∀ ys : List Str, (∀ y ∈ ys, c ∉ cs y) → c ∉ cs (Txt.join ⟨#[a]⟩ ys)
  | [], _ => by rw [join_eq]; exact List.not_mem_nil
  | [x], f => by rw [join_eq]; exact f x (List.mem_cons_self ..)
  | x :: y :: r, f => by
    have ih := join_free h (y :: r) fun z m => f z (List.mem_cons_of_mem _ m)
    rw [join_eq] at ih ⊢
    show c ∉ cs (x ++ ⟨#[a]⟩ ++ Str.join ⟨#[a]⟩ (y :: r))
    rw [cs_app, cs_app]
    intro m
    rcases List.mem_append.mp m with m | m
    · rcases List.mem_append.mp m with m | m
      · exact f x (List.mem_cons_self ..) m
      · exact h (List.mem_singleton.mp m)
    · exact ih m
theorem join_len (a : Str) (ys : List Str) : (Txt.join a ys).length ≤ (ys.map (·.length)).sum + ys.length * a.length := by
  rw [join_eq]; exact StrLaws.join_length_le a ys
@[simp] theorem flats_strs : ∀ l : List Str, flats (l.map .str) = some (l.map V.str)
  | [] => rfl
  | x :: l => by rw [List.map_cons, flats_cons, flats_strs l]; rfl
theorem in_strs (x : Str) (l : List Str) : inW (.at (.str x)) (.ls (l.map .str)) = some (l.any fun y => decide (x = y)) := by
  rw [in_s_ls, flats_strs, flatD_s, in1_s, List.any_map]
  congr 2
  funext y
  exact eqV_ss y x
theorem nl_lit : Str.ofString "\n" = (⟨#[10]⟩ : Str) := by decide +kernel
end BB

namespace BB
open PySem PySem.Spec PyProof.Rows L2
theorem at_sign (p : Str) (c i : Nat) : StrLaws.At p ⟨#[c]⟩ p.length i ↔ (cs p)[i]? = some c := by
  have e : (p.cps.extract i (i + 1)).toList = ((cs p).drop i).take 1 := by
    rw [Array.toList_extract]
    show List.extract (cs p) i (i + 1) = _
    rw [List.extract_eq_take_drop]
    congr 1; omega
  unfold StrLaws.At Builtin.Str.subAt
  show (i + 1 ≤ p.length ∧ (p.cps.extract i (i + 1) == #[c]) = true) ↔ _
  have h : (p.cps.extract i (i + 1) == #[c]) = true ↔ ((cs p).drop i).take 1 = [c] := by
    rw [beq_iff_eq, ← e]
    exact ⟨fun z => by rw [z], fun z => by cases q : p.cps.extract i (i + 1); rw [q] at z; simpa using z⟩
  rw [h]
  have hl : p.length = (cs p).length := rfl
  constructor
  · rintro ⟨h1, h2⟩
    have : i < (cs p).length := by omega
    rw [List.drop_eq_getElem_cons this, List.take_succ_cons, List.take_zero] at h2
    injection h2 with h2 _
    rw [List.getElem?_eq_getElem this, h2]
  · intro h1
    have : i < (cs p).length := (List.getElem?_eq_some_iff.mp h1).1
    refine ⟨by omega, ?_⟩
    rw [List.drop_eq_getElem_cons this]
    rw [List.getElem?_eq_getElem this] at h1
    injection h1 with h1
    simp [h1]
/-- text.index of a sign -/
theorem index_sign {p : Str} {c : Nat} {a b : List Nat} (h : cs p = a ++ c :: b) (n : c ∉ a) : mtV .index (.at (.str p)) [.at (.str ⟨#[c]⟩)] = some (.va (.int (a.length : Nat))) := by
  have hit : (cs p)[a.length]? = some c := by rw [h]; simp
  have low : ∀ k, k < a.length → (cs p)[k]? ≠ some c := fun k hk e => by
    rw [h, List.getElem?_append_left hk] at e
    exact n (List.mem_of_getElem? e)
  show (match Builtin.Str.occurrences p ⟨#[c]⟩ 0 p.length 1 with | i :: _ => some (R.va (.int (i : Nat))) | [] => none) = _
  rcases StrLaws.occ_head p ⟨#[c]⟩ 1 (Nat.le_refl _) with ⟨_, z⟩ | ⟨i, r, e, g, z⟩
  · exact absurd ((at_sign p c a.length).mpr hit) (z _)
  · rw [e]
    have gi := (at_sign p c i).mp g
    have : i = a.length := by
      rcases Nat.lt_trichotomy i a.length with q | q | q
      · exact absurd gi (low i q)
      · exact q
      · exact absurd ((at_sign p c a.length).mpr hit) (z _ q)
    rw [this]
theorem cut_mid (l : List D) (a b : Nat) : BB.cutD l (some (a : Int)) (some (b : Int)) = (l.drop a).take (b - a) := by
  show (l.drop (HT.sIx l.length 0 (some (a : Int)))).take (HT.sIx l.length l.length (some (b : Int)) - HT.sIx l.length 0 (some (a : Int))) = _
  rw [HT.sIx_nat, HT.sIx_nat]
  rcases Nat.le_total a l.length with h | h
  · rw [Nat.min_eq_left h]
    rcases Nat.le_total b l.length with g | g
    · rw [Nat.min_eq_left g]
    · rw [Nat.min_eq_right g, List.take_of_length_le (by rw [List.length_drop]; omega), List.take_of_length_le (by rw [List.length_drop]; omega)]
  · rw [Nat.min_eq_right h, List.drop_length, List.drop_eq_nil_of_le h, List.take_nil, List.take_nil]
@[simp] theorem cut_mid' (l : List D) (a b : Nat) : BB.cutD l (some (no_index (OfNat.ofNat a : Int))) (some (no_index (OfNat.ofNat b : Int))) = (l.drop a).take (b - a) := cut_mid l a b
end BB

namespace L_k04_letters
open PySem PySem.Spec PyProof.Rows L2 BB
def topS (i : Nat) : Stmt := PySem.Challenge.pw_bothbooks_k04_letters.main.body.getD i (.Pass ⟨0, 0, 0, 0⟩)
/-! is_of -/
def b0 : CB := (.cons (.ret (.and_ (.chain .LtE .LtE (.cint 1 0 ⟨16, 11, 16, 12⟩) (.bi .len ⟨16, 16, 16, 19⟩ (.cons (.var 0 "text" ⟨16, 20, 16, 24⟩) .nil) ⟨16, 16, 16, 25⟩) (.var 1 "most" ⟨16, 29, 16, 33⟩) ⟨16, 11, 16, 33⟩) (.cons (.bi .all ⟨16, 38, 16, 41⟩ (.cons (.lc (.cmp .In (.var 3 "sign" ⟨16, 43, 16, 47⟩) (.var 2 "signs" ⟨16, 51, 16, 56⟩) ⟨16, 43, 16, 56⟩) (.nm 3 "sign" ⟨16, 61, 16, 65⟩) (.sq (.var 0 "text" ⟨16, 69, 16, 73⟩)) .nil { kind := .function, names := [(".0", .local), ("sign", .local), ("signs", .free)], isGenerator := false, isCoroutine := false, more := [] } [("sign", 3)] ⟨16, 42, 16, 74⟩) .nil) ⟨16, 38, 16, 75⟩) .nil) ⟨16, 11, 16, 75⟩) ⟨16, 4, 16, 75⟩) .nil)
abbrev n0 : List Str := ["text", "most", "signs", "sign"]
abbrev p0 : List Str := ["text", "most", "signs"]
/-! is_house -/
def b1 : CB := (.cons (.ret (.and_ (.bi .isi ⟨18, 11, 18, 21⟩ (.cons (.var 0 "thing" ⟨18, 22, 18, 27⟩) (.cons (.bty "str" "str" ⟨18, 29, 18, 32⟩) .nil)) ⟨18, 11, 18, 33⟩) (.cons (.call 0 "is_of" ⟨18, 38, 18, 43⟩ (.cons (.var 0 "thing" ⟨18, 44, 18, 49⟩) (.cons (.glo 2 "MOST_HOUSE" ⟨18, 51, 18, 61⟩) (.cons (.glo 0 "LETTERS" ⟨18, 63, 18, 70⟩) .nil))) ⟨18, 38, 18, 71⟩) .nil) ⟨18, 11, 18, 71⟩) ⟨18, 4, 18, 71⟩) .nil)
abbrev n1 : List Str := ["thing"]
abbrev p1 : List Str := ["thing"]
/-! is_person -/
def b2 : CB := (.cons (.ifs (.or_ (.not_ (.bi .isi ⟨20, 11, 20, 21⟩ (.cons (.var 0 "thing" ⟨20, 22, 20, 27⟩) (.cons (.bty "str" "str" ⟨20, 29, 20, 32⟩) .nil)) ⟨20, 11, 20, 33⟩) ⟨20, 7, 20, 33⟩) (.cons (.cmp .NotEq (.mt .count (.var 0 "thing" ⟨20, 37, 20, 42⟩) ⟨20, 37, 20, 48⟩ (.cons (.cstr "@" 0 ⟨20, 49, 20, 52⟩) .nil) ⟨20, 37, 20, 53⟩) (.cint 1 0 ⟨20, 57, 20, 58⟩) ⟨20, 37, 20, 58⟩) .nil) ⟨20, 7, 20, 58⟩) (.cons (.ret (.cbl false 0 ⟨21, 15, 21, 20⟩) ⟨21, 8, 21, 20⟩) .nil) .nil ⟨20, 4, 21, 20⟩) (.cons (.unp [(1, "name", ⟨22, 4, 22, 8⟩), (2, "house", ⟨22, 10, 22, 15⟩)] 0 ⟨22, 4, 22, 15⟩ (.mt .split (.var 0 "thing" ⟨22, 18, 22, 23⟩) ⟨22, 18, 22, 29⟩ (.cons (.cstr "@" 0 ⟨22, 30, 22, 33⟩) .nil) ⟨22, 18, 22, 34⟩) ⟨22, 4, 22, 34⟩) (.cons (.ret (.and_ (.call 0 "is_of" ⟨23, 11, 23, 16⟩ (.cons (.var 1 "name" ⟨23, 17, 23, 21⟩) (.cons (.glo 3 "MOST_NAME" ⟨23, 23, 23, 32⟩) (.cons (.glo 1 "SIGNS" ⟨23, 34, 23, 39⟩) .nil))) ⟨23, 11, 23, 40⟩) (.cons (.call 1 "is_house" ⟨23, 45, 23, 53⟩ (.cons (.var 2 "house" ⟨23, 54, 23, 59⟩) .nil) ⟨23, 45, 23, 60⟩) .nil) ⟨23, 11, 23, 60⟩) ⟨23, 4, 23, 60⟩) .nil)))
abbrev n2 : List Str := ["thing", "name", "house"]
abbrev p2 : List Str := ["thing"]
/-! check_person -/
def b3 : CB := (.cons (.ifs (.not_ (.call 2 "is_person" ⟨25, 11, 25, 20⟩ (.cons (.var 0 "person" ⟨25, 21, 25, 27⟩) .nil) ⟨25, 11, 25, 28⟩) ⟨25, 7, 25, 28⟩) (.cons (.raise_ 1 "NoPerson" ⟨26, 14, 26, 22⟩ "no person" 0 ⟨26, 23, 26, 34⟩ ⟨26, 14, 26, 35⟩ ⟨26, 8, 26, 35⟩) .nil) .nil ⟨25, 4, 26, 35⟩) .nil)
abbrev n3 : List Str := ["person"]
abbrev p3 : List Str := ["person"]
/-! house_of -/
def b4 : CB := (.cons (.expr (.call 3 "check_person" ⟨28, 4, 28, 16⟩ (.cons (.var 0 "person" ⟨28, 17, 28, 23⟩) .nil) ⟨28, 4, 28, 24⟩) ⟨28, 4, 28, 24⟩) (.cons (.ret (.ix (.mt .split (.var 0 "person" ⟨29, 11, 29, 17⟩) ⟨29, 11, 29, 23⟩ (.cons (.cstr "@" 0 ⟨29, 24, 29, 27⟩) .nil) ⟨29, 11, 29, 28⟩) (.cint 1 0 ⟨29, 29, 29, 30⟩) ⟨29, 11, 29, 31⟩) ⟨29, 4, 29, 31⟩) .nil))
abbrev n4 : List Str := ["person"]
abbrev p4 : List Str := ["person"]
/-! is_whole -/
def b5 : CB := (.cons (.ret (.and_ (.bi .isi ⟨34, 11, 34, 21⟩ (.cons (.var 0 "thing" ⟨34, 22, 34, 27⟩) (.cons (.bty "int" "int" ⟨34, 29, 34, 32⟩) .nil)) ⟨34, 11, 34, 33⟩) (.cons (.not_ (.bi .isi ⟨34, 43, 34, 53⟩ (.cons (.var 0 "thing" ⟨34, 54, 34, 59⟩) (.cons (.bty "bool" "bool" ⟨34, 61, 34, 65⟩) .nil)) ⟨34, 43, 34, 66⟩) ⟨34, 39, 34, 66⟩) .nil) ⟨34, 11, 34, 67⟩) ⟨34, 4, 34, 67⟩) .nil)
abbrev n5 : List Str := ["thing"]
abbrev p5 : List Str := ["thing"]
/-! asks -/
def b6 : CB := (.cons (.ret (.cmp .Eq (.bin .Mod (.var 0 "wish" ⟨36, 11, 36, 15⟩) (.cint 2 0 ⟨36, 18, 36, 19⟩) ⟨36, 11, 36, 19⟩) (.cint 1 0 ⟨36, 23, 36, 24⟩) ⟨36, 11, 36, 24⟩) ⟨36, 4, 36, 24⟩) .nil)
abbrev n6 : List Str := ["wish"]
abbrev p6 : List Str := ["wish"]
/-! is_at -/
def b7 : CB := (.cons (.ifs (.cmp .In (.var 0 "word" ⟨38, 7, 38, 11⟩) (.glo 4 "AT_WISH" ⟨38, 15, 38, 22⟩) ⟨38, 7, 38, 22⟩) (.cons (.ret (.and_ (.call 5 "is_whole" ⟨39, 15, 39, 23⟩ (.cons (.var 1 "at" ⟨39, 24, 39, 26⟩) .nil) ⟨39, 15, 39, 27⟩) (.cons (.cmp .Gt (.var 1 "at" ⟨39, 32, 39, 34⟩) (.cint 0 0 ⟨39, 37, 39, 38⟩) ⟨39, 32, 39, 38⟩) (.cons (.call 6 "asks" ⟨39, 43, 39, 47⟩ (.cons (.var 1 "at" ⟨39, 48, 39, 50⟩) .nil) ⟨39, 43, 39, 51⟩) .nil)) ⟨39, 15, 39, 51⟩) ⟨39, 8, 39, 51⟩) .nil) .nil ⟨38, 4, 39, 51⟩) (.cons (.ifs (.cmp .In (.var 0 "word" ⟨40, 7, 40, 11⟩) (.glo 5 "AT_NOUGHT" ⟨40, 15, 40, 24⟩) ⟨40, 7, 40, 24⟩) (.cons (.ret (.and_ (.call 5 "is_whole" ⟨41, 15, 41, 23⟩ (.cons (.var 1 "at" ⟨41, 24, 41, 26⟩) .nil) ⟨41, 15, 41, 27⟩) (.cons (.cmp .Eq (.var 1 "at" ⟨41, 32, 41, 34⟩) (.cint 0 0 ⟨41, 38, 41, 39⟩) ⟨41, 32, 41, 39⟩) .nil) ⟨41, 15, 41, 39⟩) ⟨41, 8, 41, 39⟩) .nil) .nil ⟨40, 4, 41, 39⟩) (.cons (.ret (.and_ (.cmp .Eq (.var 0 "word" ⟨42, 11, 42, 15⟩) (.cstr "moved" 0 ⟨42, 19, 42, 26⟩) ⟨42, 11, 42, 26⟩) (.cons (.call 2 "is_person" ⟨42, 31, 42, 40⟩ (.cons (.var 1 "at" ⟨42, 41, 42, 43⟩) .nil) ⟨42, 31, 42, 44⟩) .nil) ⟨42, 11, 42, 44⟩) ⟨42, 4, 42, 44⟩) .nil)))
abbrev n7 : List Str := ["word", "at"]
abbrev p7 : List Str := ["word", "at"]
/-! is_answer -/
def b8 : CB := (.cons (.ifs (.or_ (.not_ (.bi .isi ⟨44, 11, 44, 21⟩ (.cons (.var 0 "thing" ⟨44, 22, 44, 27⟩) (.cons (.bty "tuple" "tuple" ⟨44, 29, 44, 34⟩) .nil)) ⟨44, 11, 44, 35⟩) ⟨44, 7, 44, 35⟩) (.cons (.cmp .NotEq (.bi .len ⟨44, 39, 44, 42⟩ (.cons (.var 0 "thing" ⟨44, 43, 44, 48⟩) .nil) ⟨44, 39, 44, 49⟩) (.cint 3 0 ⟨44, 53, 44, 54⟩) ⟨44, 39, 44, 54⟩) .nil) ⟨44, 7, 44, 54⟩) (.cons (.ret (.cbl false 0 ⟨45, 15, 45, 20⟩) ⟨45, 8, 45, 20⟩) .nil) .nil ⟨44, 4, 45, 20⟩) (.cons (.unp [(1, "number", ⟨46, 4, 46, 10⟩), (2, "word", ⟨46, 12, 46, 16⟩), (3, "at", ⟨46, 18, 46, 20⟩)] 0 ⟨46, 4, 46, 20⟩ (.var 0 "thing" ⟨46, 23, 46, 28⟩) ⟨46, 4, 46, 28⟩) (.cons (.ifs (.or_ (.not_ (.call 5 "is_whole" ⟨47, 11, 47, 19⟩ (.cons (.var 1 "number" ⟨47, 20, 47, 26⟩) .nil) ⟨47, 11, 47, 27⟩) ⟨47, 7, 47, 27⟩) (.cons (.not_ (.bi .isi ⟨47, 35, 47, 45⟩ (.cons (.var 2 "word" ⟨47, 46, 47, 50⟩) (.cons (.bty "str" "str" ⟨47, 52, 47, 55⟩) .nil)) ⟨47, 35, 47, 56⟩) ⟨47, 31, 47, 56⟩) .nil) ⟨47, 7, 47, 56⟩) (.cons (.ret (.cbl false 0 ⟨48, 15, 48, 20⟩) ⟨48, 8, 48, 20⟩) .nil) .nil ⟨47, 4, 48, 20⟩) (.cons (.ifs (.cmp .Eq (.var 1 "number" ⟨49, 7, 49, 13⟩) (.cint 0 0 ⟨49, 17, 49, 18⟩) ⟨49, 7, 49, 18⟩) (.cons (.ret (.and_ (.cmp .Eq (.var 2 "word" ⟨50, 15, 50, 19⟩) (.cstr "none" 0 ⟨50, 23, 50, 29⟩) ⟨50, 15, 50, 29⟩) (.cons (.call 5 "is_whole" ⟨50, 34, 50, 42⟩ (.cons (.var 3 "at" ⟨50, 43, 50, 45⟩) .nil) ⟨50, 34, 50, 46⟩) (.cons (.cmp .Eq (.var 3 "at" ⟨50, 52, 50, 54⟩) (.cint 0 0 ⟨50, 58, 50, 59⟩) ⟨50, 52, 50, 59⟩) .nil)) ⟨50, 15, 50, 60⟩) ⟨50, 8, 50, 60⟩) .nil) .nil ⟨49, 4, 50, 60⟩) (.cons (.ret (.and_ (.cmp .GtE (.var 1 "number" ⟨51, 11, 51, 17⟩) (.bin .Add (.cint 1 0 ⟨51, 21, 51, 22⟩) (.bi .int ⟨51, 25, 51, 28⟩ (.cons (.cmp .Eq (.var 2 "word" ⟨51, 29, 51, 33⟩) (.cstr "open" 0 ⟨51, 37, 51, 43⟩) ⟨51, 29, 51, 43⟩) .nil) ⟨51, 25, 51, 44⟩) ⟨51, 21, 51, 44⟩) ⟨51, 11, 51, 44⟩) (.cons (.call 7 "is_at" ⟨51, 49, 51, 54⟩ (.cons (.var 2 "word" ⟨51, 55, 51, 59⟩) (.cons (.var 3 "at" ⟨51, 61, 51, 63⟩) .nil)) ⟨51, 49, 51, 64⟩) .nil) ⟨51, 11, 51, 64⟩) ⟨51, 4, 51, 64⟩) .nil)))))
abbrev n8 : List Str := ["thing", "number", "word", "at"]
abbrev p8 : List Str := ["thing"]
/-! is_letter -/
def b9 : CB := (.cons (.ifs (.or_ (.not_ (.bi .isi ⟨54, 11, 54, 21⟩ (.cons (.var 0 "thing" ⟨54, 22, 54, 27⟩) (.cons (.bty "tuple" "tuple" ⟨54, 29, 54, 34⟩) .nil)) ⟨54, 11, 54, 35⟩) ⟨54, 7, 54, 35⟩) (.cons (.cmp .NotIn (.bi .len ⟨54, 39, 54, 42⟩ (.cons (.var 0 "thing" ⟨54, 43, 54, 48⟩) .nil) ⟨54, 39, 54, 49⟩) (.tup (.cons (.cint 4 0 ⟨54, 58, 54, 59⟩) (.cons (.cint 6 0 ⟨54, 61, 54, 62⟩) .nil)) 0 ⟨54, 57, 54, 63⟩) ⟨54, 39, 54, 63⟩) (.cons (.not_ (.bi .isi ⟨54, 72, 54, 82⟩ (.cons (.ix (.var 0 "thing" ⟨54, 83, 54, 88⟩) (.cint 0 0 ⟨54, 89, 54, 90⟩) ⟨54, 83, 54, 91⟩) (.cons (.bty "str" "str" ⟨54, 93, 54, 96⟩) .nil)) ⟨54, 72, 54, 97⟩) ⟨54, 68, 54, 97⟩) .nil)) ⟨54, 7, 54, 98⟩) (.cons (.ret (.cbl false 0 ⟨55, 15, 55, 20⟩) ⟨55, 8, 55, 20⟩) .nil) .nil ⟨54, 4, 55, 20⟩) (.cons (.ifs (.or_ (.not_ (.call 2 "is_person" ⟨56, 11, 56, 20⟩ (.cons (.ix (.var 0 "thing" ⟨56, 21, 56, 26⟩) (.cint 1 0 ⟨56, 27, 56, 28⟩) ⟨56, 21, 56, 29⟩) .nil) ⟨56, 11, 56, 30⟩) ⟨56, 7, 56, 30⟩) (.cons (.not_ (.call 2 "is_person" ⟨56, 38, 56, 47⟩ (.cons (.ix (.var 0 "thing" ⟨56, 48, 56, 53⟩) (.cint 2 0 ⟨56, 54, 56, 55⟩) ⟨56, 48, 56, 56⟩) .nil) ⟨56, 38, 56, 57⟩) ⟨56, 34, 56, 57⟩) (.cons (.cmp .Eq (.call 4 "house_of" ⟨56, 61, 56, 69⟩ (.cons (.ix (.var 0 "thing" ⟨56, 70, 56, 75⟩) (.cint 1 0 ⟨56, 76, 56, 77⟩) ⟨56, 70, 56, 78⟩) .nil) ⟨56, 61, 56, 79⟩) (.call 4 "house_of" ⟨56, 83, 56, 91⟩ (.cons (.ix (.var 0 "thing" ⟨56, 92, 56, 97⟩) (.cint 2 0 ⟨56, 98, 56, 99⟩) ⟨56, 92, 56, 100⟩) .nil) ⟨56, 83, 56, 101⟩) ⟨56, 61, 56, 101⟩) .nil)) ⟨56, 7, 56, 101⟩) (.cons (.ret (.cbl false 0 ⟨57, 15, 57, 20⟩) ⟨57, 8, 57, 20⟩) .nil) .nil ⟨56, 4, 57, 20⟩) (.cons (.ifs (.cmp .Eq (.bi .len ⟨58, 7, 58, 10⟩ (.cons (.var 0 "thing" ⟨58, 11, 58, 16⟩) .nil) ⟨58, 7, 58, 17⟩) (.cint 4 0 ⟨58, 21, 58, 22⟩) ⟨58, 7, 58, 22⟩) (.cons (.ret (.and_ (.cmp .Eq (.ix (.var 0 "thing" ⟨59, 15, 59, 20⟩) (.cint 0 0 ⟨59, 21, 59, 22⟩) ⟨59, 15, 59, 23⟩) (.cstr "wish" 0 ⟨59, 27, 59, 33⟩) ⟨59, 15, 59, 33⟩) (.cons (.call 5 "is_whole" ⟨59, 38, 59, 46⟩ (.cons (.ix (.var 0 "thing" ⟨59, 47, 59, 52⟩) (.cint 3 0 ⟨59, 53, 59, 54⟩) ⟨59, 47, 59, 55⟩) .nil) ⟨59, 38, 59, 56⟩) (.cons (.cmp .Gt (.ix (.var 0 "thing" ⟨59, 62, 59, 67⟩) (.cint 3 0 ⟨59, 68, 59, 69⟩) ⟨59, 62, 59, 70⟩) (.cint 0 0 ⟨59, 73, 59, 74⟩) ⟨59, 62, 59, 74⟩) .nil)) ⟨59, 15, 59, 75⟩) ⟨59, 8, 59, 75⟩) .nil) .nil ⟨58, 4, 59, 75⟩) (.cons (.ret (.and_ (.cmp .Eq (.ix (.var 0 "thing" ⟨60, 11, 60, 16⟩) (.cint 0 0 ⟨60, 17, 60, 18⟩) ⟨60, 11, 60, 19⟩) (.cstr "answer" 0 ⟨60, 23, 60, 31⟩) ⟨60, 11, 60, 31⟩) (.cons (.call 8 "is_answer" ⟨60, 36, 60, 45⟩ (.cons (.sl (.var 0 "thing" ⟨60, 46, 60, 51⟩) (.so (.cint 3 0 ⟨60, 52, 60, 53⟩)) .no ⟨60, 52, 60, 54⟩ ⟨60, 46, 60, 55⟩) .nil) ⟨60, 36, 60, 56⟩) (.cons (.cmp .Gt (.ix (.var 0 "thing" ⟨60, 62, 60, 67⟩) (.cint 3 0 ⟨60, 68, 60, 69⟩) ⟨60, 62, 60, 70⟩) (.cint 0 0 ⟨60, 73, 60, 74⟩) ⟨60, 62, 60, 74⟩) .nil)) ⟨60, 11, 60, 75⟩) ⟨60, 4, 60, 75⟩) .nil))))
abbrev n9 : List Str := ["thing"]
abbrev p9 : List Str := ["thing"]
/-! ends -/
def b10 : CB := (.cons (.ifs (.not_ (.call 9 "is_letter" ⟨62, 11, 62, 20⟩ (.cons (.var 0 "letter" ⟨62, 21, 62, 27⟩) .nil) ⟨62, 11, 62, 28⟩) ⟨62, 7, 62, 28⟩) (.cons (.raise_ 3 "NoLetter" ⟨63, 14, 63, 22⟩ "no letter" 0 ⟨63, 23, 63, 34⟩ ⟨63, 14, 63, 35⟩ ⟨63, 8, 63, 35⟩) .nil) .nil ⟨62, 4, 63, 35⟩) (.cons (.set 1 "houses" ⟨64, 4, 64, 10⟩ (.tup (.cons (.call 4 "house_of" ⟨64, 14, 64, 22⟩ (.cons (.ix (.var 0 "letter" ⟨64, 23, 64, 29⟩) (.cint 1 0 ⟨64, 30, 64, 31⟩) ⟨64, 23, 64, 32⟩) .nil) ⟨64, 14, 64, 33⟩) (.cons (.call 4 "house_of" ⟨64, 35, 64, 43⟩ (.cons (.ix (.var 0 "letter" ⟨64, 44, 64, 50⟩) (.cint 2 0 ⟨64, 51, 64, 52⟩) ⟨64, 44, 64, 53⟩) .nil) ⟨64, 35, 64, 54⟩) .nil)) 0 ⟨64, 13, 64, 55⟩) ⟨64, 4, 64, 55⟩) (.cons (.ifs (.cmp .Eq (.ix (.var 0 "letter" ⟨65, 7, 65, 13⟩) (.cint 0 0 ⟨65, 14, 65, 15⟩) ⟨65, 7, 65, 16⟩) (.cstr "wish" 0 ⟨65, 20, 65, 26⟩) ⟨65, 7, 65, 26⟩) (.cons (.ret (.var 1 "houses" ⟨66, 15, 66, 21⟩) ⟨66, 8, 66, 21⟩) .nil) .nil ⟨65, 4, 66, 21⟩) (.cons (.ret (.rvt (.var 1 "houses" ⟨67, 11, 67, 17⟩) 0 ⟨67, 21, 67, 22⟩ ⟨67, 20, 67, 22⟩ ⟨67, 18, 67, 22⟩ ⟨67, 11, 67, 23⟩) ⟨67, 4, 67, 23⟩) .nil))))
abbrev n10 : List Str := ["letter", "houses"]
abbrev p10 : List Str := ["letter"]
/-! from_house -/
def b11 : CB := (.cons (.ret (.ix (.call 10 "ends" ⟨69, 11, 69, 15⟩ (.cons (.var 0 "letter" ⟨69, 16, 69, 22⟩) .nil) ⟨69, 11, 69, 23⟩) (.cint 0 0 ⟨69, 24, 69, 25⟩) ⟨69, 11, 69, 26⟩) ⟨69, 4, 69, 26⟩) .nil)
abbrev n11 : List Str := ["letter"]
abbrev p11 : List Str := ["letter"]
/-! to_house -/
def b12 : CB := (.cons (.ret (.ix (.call 10 "ends" ⟨71, 11, 71, 15⟩ (.cons (.var 0 "letter" ⟨71, 16, 71, 22⟩) .nil) ⟨71, 11, 71, 23⟩) (.cint 1 0 ⟨71, 24, 71, 25⟩) ⟨71, 11, 71, 26⟩) ⟨71, 4, 71, 26⟩) .nil)
abbrev n12 : List Str := ["letter"]
abbrev p12 : List Str := ["letter"]
/-! _law_draws -/
def b13_0 : CB := (.cons (.set 3 "_law_low" ⟨79, 8, 79, 16⟩ (.bin .Mod (.bin .Mult (.var 3 "_law_low" ⟨79, 19, 79, 27⟩) (.cint 48271 0 ⟨79, 30, 79, 35⟩) ⟨79, 19, 79, 35⟩) (.cint 2147483647 0 ⟨79, 38, 79, 48⟩) ⟨79, 19, 79, 48⟩) ⟨79, 8, 79, 48⟩) (.cons (.set 4 "_law_other" ⟨80, 8, 80, 18⟩ (.bin .Add (.bin .Mod (.bin .Mult (.var 4 "_law_other" ⟨80, 21, 80, 31⟩) (.cint 69621 0 ⟨80, 34, 80, 39⟩) ⟨80, 21, 80, 39⟩) (.cint 2147483629 0 ⟨80, 42, 80, 52⟩) ⟨80, 21, 80, 52⟩) (.var 6 "_law_k" ⟨80, 55, 80, 61⟩) ⟨80, 21, 80, 61⟩) ⟨80, 8, 80, 61⟩) (.cons (.set 7 "_law_draw" ⟨81, 8, 81, 17⟩ (.bin .Mod (.bin .Add (.bin .FloorDiv (.var 3 "_law_low" ⟨81, 21, 81, 29⟩) (.cint 16 0 ⟨81, 33, 81, 35⟩) ⟨81, 21, 81, 35⟩) (.bin .FloorDiv (.var 4 "_law_other" ⟨81, 38, 81, 48⟩) (.cint 4096 0 ⟨81, 52, 81, 56⟩) ⟨81, 38, 81, 56⟩) ⟨81, 21, 81, 56⟩) (.cint 720 0 ⟨81, 60, 81, 63⟩) ⟨81, 20, 81, 63⟩) ⟨81, 8, 81, 63⟩) (.cons (.ifs (.cmp .Gt (.var 5 "_law_rest" ⟨82, 11, 82, 20⟩) (.cint 0 0 ⟨82, 23, 82, 24⟩) ⟨82, 11, 82, 24⟩) (.cons (.set 7 "_law_draw" ⟨83, 12, 83, 21⟩ (.bin .Mod (.var 5 "_law_rest" ⟨83, 24, 83, 33⟩) (.cint 720 0 ⟨83, 36, 83, 39⟩) ⟨83, 24, 83, 39⟩) ⟨83, 12, 83, 39⟩) (.cons (.set 5 "_law_rest" ⟨84, 12, 84, 21⟩ (.bin .FloorDiv (.var 5 "_law_rest" ⟨84, 24, 84, 33⟩) (.cint 720 0 ⟨84, 37, 84, 40⟩) ⟨84, 24, 84, 40⟩) ⟨84, 12, 84, 40⟩) .nil)) .nil ⟨82, 8, 84, 40⟩) (.cons (.app 2 "_law_found" ⟨85, 8, 85, 18⟩ ⟨85, 8, 85, 25⟩ (.var 7 "_law_draw" ⟨85, 26, 85, 35⟩) ⟨85, 8, 85, 36⟩ ⟨85, 8, 85, 36⟩) .nil)))))
def b13 : CB := (.cons (.seto 2 "_law_found" ⟨74, 4, 74, 14⟩ (.lst .nil ⟨74, 17, 74, 19⟩) ⟨74, 4, 74, 19⟩) (.cons (.set 3 "_law_low" ⟨75, 4, 75, 12⟩ (.bin .Add (.bin .Mod (.bi .abs ⟨75, 15, 75, 18⟩ (.cons (.var 0 "_law_cell" ⟨75, 19, 75, 28⟩) .nil) ⟨75, 15, 75, 29⟩) (.cint 2147483647 0 ⟨75, 32, 75, 42⟩) ⟨75, 15, 75, 42⟩) (.cint 1 0 ⟨75, 45, 75, 46⟩) ⟨75, 15, 75, 46⟩) ⟨75, 4, 75, 46⟩) (.cons (.set 4 "_law_other" ⟨76, 4, 76, 14⟩ (.bin .Add (.bin .Mod (.bi .abs ⟨76, 17, 76, 20⟩ (.cons (.var 0 "_law_cell" ⟨76, 21, 76, 30⟩) .nil) ⟨76, 17, 76, 31⟩) (.cint 2147483629 0 ⟨76, 34, 76, 44⟩) ⟨76, 17, 76, 44⟩) (.cint 7 0 ⟨76, 47, 76, 48⟩) ⟨76, 17, 76, 48⟩) ⟨76, 4, 76, 48⟩) (.cons (.set 5 "_law_rest" ⟨77, 4, 77, 13⟩ (.bin .Mult (.var 0 "_law_cell" ⟨77, 16, 77, 25⟩) (.bi .int ⟨77, 28, 77, 31⟩ (.cons (.cmp .GtE (.var 0 "_law_cell" ⟨77, 32, 77, 41⟩) (.bin .Pow (.cint 10 0 ⟨77, 45, 77, 47⟩) (.cint 18 0 ⟨77, 51, 77, 53⟩) ⟨77, 45, 77, 53⟩) ⟨77, 32, 77, 53⟩) .nil) ⟨77, 28, 77, 54⟩) ⟨77, 16, 77, 54⟩) ⟨77, 4, 77, 54⟩) (.cons (.for_ (.nm 6 "_law_k" ⟨78, 8, 78, 14⟩) (.rng1 (.var 1 "_law_many" ⟨78, 24, 78, 33⟩) ⟨78, 18, 78, 23⟩ ⟨78, 18, 78, 34⟩) b13_0 ⟨78, 4, 85, 36⟩) (.cons (.ret (.mv 2 "_law_found" ⟨86, 11, 86, 21⟩) ⟨86, 4, 86, 21⟩) .nil))))))
abbrev n13 : List Str := ["_law_cell", "_law_many", "_law_found", "_law_low", "_law_other", "_law_rest", "_law_k", "_law_draw"]
abbrev p13 : List Str := ["_law_cell", "_law_many"]
/-! _law_houses -/
def b14 : CB := (.cons (.set 2 "_law_signs" ⟨88, 4, 88, 14⟩ (.cstr "abcdefghijklmnopqrstuvwxyz" 0 ⟨88, 17, 88, 45⟩) ⟨88, 4, 88, 45⟩) (.cons (.ret (.lc (.bin .Mult (.ix (.var 2 "_law_signs" ⟨89, 12, 89, 22⟩) (.bin .Mod (.bin .Add (.var 0 "_law_x" ⟨89, 24, 89, 30⟩) (.bin .Mult (.cint 7 0 ⟨89, 33, 89, 34⟩) (.var 3 "_law_k" ⟨89, 37, 89, 43⟩) ⟨89, 33, 89, 43⟩) ⟨89, 24, 89, 43⟩) (.cint 26 0 ⟨89, 47, 89, 49⟩) ⟨89, 23, 89, 49⟩) ⟨89, 12, 89, 50⟩) (.bin .Add (.cint 1 0 ⟨89, 54, 89, 55⟩) (.bin .Mod (.bin .Add (.bin .FloorDiv (.var 0 "_law_x" ⟨89, 59, 89, 65⟩) (.cint 26 0 ⟨89, 69, 89, 71⟩) ⟨89, 59, 89, 71⟩) (.var 3 "_law_k" ⟨89, 74, 89, 80⟩) ⟨89, 59, 89, 80⟩) (.cint 6 0 ⟨89, 84, 89, 85⟩) ⟨89, 58, 89, 85⟩) ⟨89, 54, 89, 85⟩) ⟨89, 12, 89, 86⟩) (.nm 3 "_law_k" ⟨89, 91, 89, 97⟩) (.rng1 (.var 1 "_law_many" ⟨89, 107, 89, 116⟩) ⟨89, 101, 89, 106⟩ ⟨89, 101, 89, 117⟩) .nil { kind := .function, names := [(".0", .local), ("_law_k", .local), ("_law_signs", .free), ("_law_x", .free)], isGenerator := false, isCoroutine := false, more := [] } [("_law_k", 3)] ⟨89, 11, 89, 118⟩) ⟨89, 4, 89, 118⟩) .nil))
abbrev n14 : List Str := ["_law_x", "_law_many", "_law_signs", "_law_k"]
abbrev p14 : List Str := ["_law_x", "_law_many"]
/-! _law_people -/
def b15_0 : CB := (.cons (.set 8 "_law_x" ⟨95, 12, 95, 18⟩ (.ix (.var 1 "_law_xs" ⟨95, 21, 95, 28⟩) (.bin .Add (.cint 4 0 ⟨95, 29, 95, 30⟩) (.var 5 "_law_k" ⟨95, 33, 95, 39⟩) ⟨95, 29, 95, 39⟩) ⟨95, 21, 95, 40⟩) ⟨95, 12, 95, 40⟩) (.cons (.set 9 "_law_name" ⟨96, 12, 96, 21⟩ (.bin .Mult (.ix (.var 3 "_law_signs" ⟨96, 24, 96, 34⟩) (.bin .Mod (.bin .Add (.var 8 "_law_x" ⟨96, 36, 96, 42⟩) (.bin .Mult (.cint 11 0 ⟨96, 45, 96, 47⟩) (.var 7 "_law_j" ⟨96, 50, 96, 56⟩) ⟨96, 45, 96, 56⟩) ⟨96, 36, 96, 56⟩) (.cint 37 0 ⟨96, 60, 96, 62⟩) ⟨96, 35, 96, 62⟩) ⟨96, 24, 96, 63⟩) (.bin .Add (.cint 1 0 ⟨96, 67, 96, 68⟩) (.bin .Mod (.bin .Add (.bin .FloorDiv (.var 8 "_law_x" ⟨96, 72, 96, 78⟩) (.cint 37 0 ⟨96, 82, 96, 84⟩) ⟨96, 72, 96, 84⟩) (.var 7 "_law_j" ⟨96, 87, 96, 93⟩) ⟨96, 72, 96, 93⟩) (.cint 8 0 ⟨96, 97, 96, 98⟩) ⟨96, 71, 96, 98⟩) ⟨96, 67, 96, 98⟩) ⟨96, 24, 96, 99⟩) ⟨96, 12, 96, 99⟩) (.cons (.ifs (.cmp .Eq (.bin .Mod (.bin .FloorDiv (.var 8 "_law_x" ⟨97, 15, 97, 21⟩) (.cint 296 0 ⟨97, 25, 97, 28⟩) ⟨97, 15, 97, 28⟩) (.cint 2 0 ⟨97, 31, 97, 32⟩) ⟨97, 15, 97, 32⟩) (.cint 1 0 ⟨97, 36, 97, 37⟩) ⟨97, 15, 97, 37⟩) (.cons (.set 9 "_law_name" ⟨98, 16, 98, 25⟩ (.bin .Add (.bin .Mult (.ix (.var 3 "_law_signs" ⟨98, 28, 98, 38⟩) (.bin .Mod (.var 8 "_law_x" ⟨98, 39, 98, 45⟩) (.cint 37 0 ⟨98, 48, 98, 50⟩) ⟨98, 39, 98, 50⟩) ⟨98, 28, 98, 51⟩) (.bin .Add (.cint 1 0 ⟨98, 55, 98, 56⟩) (.bin .Mod (.bin .FloorDiv (.var 8 "_law_x" ⟨98, 59, 98, 65⟩) (.cint 37 0 ⟨98, 69, 98, 71⟩) ⟨98, 59, 98, 71⟩) (.cint 7 0 ⟨98, 74, 98, 75⟩) ⟨98, 59, 98, 75⟩) ⟨98, 55, 98, 75⟩) ⟨98, 28, 98, 76⟩) (.ix (.lst (.cons (.cstr "" 0 ⟨98, 80, 98, 82⟩) (.cons (.cstr "-" 0 ⟨98, 84, 98, 87⟩) (.cons (.cstr "7" 0 ⟨98, 89, 98, 92⟩) .nil))) ⟨98, 79, 98, 93⟩) (.var 7 "_law_j" ⟨98, 94, 98, 100⟩) ⟨98, 79, 98, 101⟩) ⟨98, 28, 98, 101⟩) ⟨98, 16, 98, 101⟩) .nil) .nil ⟨97, 12, 98, 101⟩) (.cons (.app 4 "_law_found" ⟨99, 12, 99, 22⟩ ⟨99, 12, 99, 29⟩ (.bin .Add (.bin .Add (.var 9 "_law_name" ⟨99, 30, 99, 39⟩) (.cstr "@" 0 ⟨99, 42, 99, 45⟩) ⟨99, 30, 99, 45⟩) (.var 6 "_law_home_here" ⟨99, 48, 99, 62⟩) ⟨99, 30, 99, 62⟩) ⟨99, 12, 99, 63⟩ ⟨99, 12, 99, 63⟩) .nil))))
def b15_1 : CB := (.cons (.for_ (.nm 7 "_law_j" ⟨94, 12, 94, 18⟩) (.rng1 (.bin .Add (.cint 1 0 ⟨94, 28, 94, 29⟩) (.bin .Mod (.ix (.var 1 "_law_xs" ⟨94, 32, 94, 39⟩) (.var 5 "_law_k" ⟨94, 40, 94, 46⟩) ⟨94, 32, 94, 47⟩) (.var 2 "_law_most" ⟨94, 50, 94, 59⟩) ⟨94, 32, 94, 59⟩) ⟨94, 28, 94, 59⟩) ⟨94, 22, 94, 27⟩ ⟨94, 22, 94, 60⟩) b15_0 ⟨94, 8, 99, 63⟩) .nil)
def b15 : CB := (.cons (.set 3 "_law_signs" ⟨91, 4, 91, 14⟩ (.cstr "abcdefghijklmnopqrstuvwxyz0123456789-" 0 ⟨91, 17, 91, 56⟩) ⟨91, 4, 91, 56⟩) (.cons (.seto 4 "_law_found" ⟨92, 4, 92, 14⟩ (.lst .nil ⟨92, 17, 92, 19⟩) ⟨92, 4, 92, 19⟩) (.cons (.for_ (.tp [(5, "_law_k", ⟨93, 8, 93, 14⟩), (6, "_law_home_here", ⟨93, 16, 93, 30⟩)] 0 ⟨93, 8, 93, 30⟩) (.enu (.var 0 "_law_houses_here" ⟨93, 44, 93, 60⟩) ⟨93, 34, 93, 43⟩ ⟨93, 34, 93, 61⟩) b15_1 ⟨93, 4, 99, 63⟩) (.cons (.ret (.mv 4 "_law_found" ⟨100, 11, 100, 21⟩) ⟨100, 4, 100, 21⟩) .nil))))
abbrev n15 : List Str := ["_law_houses_here", "_law_xs", "_law_most", "_law_signs", "_law_found", "_law_k", "_law_home_here", "_law_j", "_law_x", "_law_name"]
abbrev p15 : List Str := ["_law_houses_here", "_law_xs", "_law_most"]
/-! _law_home -/
def b16 : CB := (.cons (.ret (.sl (.var 0 "_law_person" ⟨102, 11, 102, 22⟩) (.so (.bin .Add (.mt .index (.var 0 "_law_person" ⟨102, 23, 102, 34⟩) ⟨102, 23, 102, 40⟩ (.cons (.cstr "@" 0 ⟨102, 41, 102, 44⟩) .nil) ⟨102, 23, 102, 45⟩) (.cint 1 0 ⟨102, 48, 102, 49⟩) ⟨102, 23, 102, 49⟩)) .no ⟨102, 23, 102, 50⟩ ⟨102, 11, 102, 51⟩) ⟨102, 4, 102, 51⟩) .nil)
abbrev n16 : List Str := ["_law_person"]
abbrev p16 : List Str := ["_law_person"]
/-! _law_told -/
def b17_0 : CB := (.cons (.try_ (.cons (.app 1 "_law_found" ⟨107, 12, 107, 22⟩ ⟨107, 12, 107, 29⟩ (.calv 2 "_law_deed" ⟨107, 30, 107, 39⟩ (.cons (.var 0 "_law_thing" ⟨107, 40, 107, 50⟩) .nil) ⟨107, 30, 107, 51⟩) ⟨107, 12, 107, 52⟩ ⟨107, 12, 107, 52⟩) .nil) (.as_ 0 "BookError" ⟨108, 15, 108, 24⟩ 3 "e" (.app 1 "_law_found" ⟨109, 12, 109, 22⟩ ⟨109, 12, 109, 29⟩ (.and_ (.isx 3 "e" ⟨109, 41, 109, 42⟩ ⟨109, 30, 109, 40⟩ 3 "NoLetter" ⟨109, 44, 109, 52⟩ ⟨109, 30, 109, 53⟩) (.cons (.not_ (.isx 3 "e" ⟨109, 74, 109, 75⟩ ⟨109, 63, 109, 73⟩ 2 "NoHouse" ⟨109, 77, 109, 84⟩ ⟨109, 63, 109, 85⟩) ⟨109, 59, 109, 85⟩) .nil) ⟨109, 30, 109, 86⟩) ⟨109, 12, 109, 87⟩ ⟨109, 12, 109, 87⟩) .nil ⟨108, 8, 109, 87⟩) ⟨106, 8, 109, 87⟩) .nil)
def b17 : CB := (.cons (.seto 1 "_law_found" ⟨104, 4, 104, 14⟩ (.lst .nil ⟨104, 17, 104, 19⟩) ⟨104, 4, 104, 19⟩) (.cons (.for_ (.nm 2 "_law_deed" ⟨105, 8, 105, 17⟩) (.sq (.tup (.cons (.fnv 11 "from_house" ⟨105, 22, 105, 32⟩) (.cons (.fnv 12 "to_house" ⟨105, 34, 105, 42⟩) .nil)) 0 ⟨105, 21, 105, 43⟩)) b17_0 ⟨105, 4, 109, 87⟩) (.cons (.ret (.mv 1 "_law_found" ⟨110, 11, 110, 21⟩) ⟨110, 4, 110, 21⟩) .nil)))
abbrev n17 : List Str := ["_law_thing", "_law_found", "_law_deed", "e"]
abbrev p17 : List Str := ["_law_thing"]
/-! _law_bent -/
def b18 : CB := (.cons (.unp [(2, "_law_first", ⟨112, 4, 112, 14⟩), (3, "_law_second", ⟨112, 16, 112, 27⟩)] 0 ⟨112, 4, 112, 27⟩ (.sl (.var 0 "_law_letter" ⟨112, 30, 112, 41⟩) (.so (.cint 1 0 ⟨112, 42, 112, 43⟩)) (.so (.cint 3 0 ⟨112, 44, 112, 45⟩)) ⟨112, 42, 112, 45⟩ ⟨112, 30, 112, 46⟩) ⟨112, 4, 112, 46⟩) (.cons (.set 4 "_law_near" ⟨113, 4, 113, 13⟩ (.bin .Add (.cstr "zz9@" 0 ⟨113, 16, 113, 22⟩) (.call 16 "_law_home" ⟨113, 25, 113, 34⟩ (.cons (.var 2 "_law_first" ⟨113, 35, 113, 45⟩) .nil) ⟨113, 25, 113, 46⟩) ⟨113, 16, 113, 46⟩) ⟨113, 4, 113, 46⟩) (.cons (.set 5 "_law_some" ⟨114, 4, 114, 13⟩ (.lst (.cons (.bin .Add (.bin .Add (.sl (.var 0 "_law_letter" ⟨114, 17, 114, 28⟩) .no (.so (.cint 1 0 ⟨114, 30, 114, 31⟩)) ⟨114, 29, 114, 31⟩ ⟨114, 17, 114, 32⟩) (.tup (.cons (.var 2 "_law_first" ⟨114, 36, 114, 46⟩) (.cons (.var 4 "_law_near" ⟨114, 48, 114, 57⟩) .nil)) 0 ⟨114, 35, 114, 58⟩) ⟨114, 17, 114, 58⟩) (.sl (.var 0 "_law_letter" ⟨114, 61, 114, 72⟩) (.so (.cint 3 0 ⟨114, 73, 114, 74⟩)) .no ⟨114, 73, 114, 75⟩ ⟨114, 61, 114, 76⟩) ⟨114, 17, 114, 76⟩) (.cons (.bin .Add (.bin .Add (.sl (.var 0 "_law_letter" ⟨114, 78, 114, 89⟩) .no (.so (.cint 1 0 ⟨114, 91, 114, 92⟩)) ⟨114, 90, 114, 92⟩ ⟨114, 78, 114, 93⟩) (.tup (.cons (.var 2 "_law_first" ⟨114, 97, 114, 107⟩) (.cons (.var 2 "_law_first" ⟨114, 109, 114, 119⟩) .nil)) 0 ⟨114, 96, 114, 120⟩) ⟨114, 78, 114, 120⟩) (.sl (.var 0 "_law_letter" ⟨114, 123, 114, 134⟩) (.so (.cint 3 0 ⟨114, 135, 114, 136⟩)) .no ⟨114, 135, 114, 137⟩ ⟨114, 123, 114, 138⟩) ⟨114, 78, 114, 138⟩) .nil)) ⟨114, 16, 114, 139⟩) ⟨114, 4, 114, 139⟩) (.cons (.set 5 "_law_some" ⟨115, 4, 115, 13⟩ (.bin .Add (.var 5 "_law_some" ⟨115, 16, 115, 25⟩) (.lst (.cons (.bin .Add (.bin .Add (.sl (.var 0 "_law_letter" ⟨115, 29, 115, 40⟩) .no (.so (.cint 3 0 ⟨115, 42, 115, 43⟩)) ⟨115, 41, 115, 43⟩ ⟨115, 29, 115, 44⟩) (.tup (.cons (.cint 0 0 ⟨115, 48, 115, 49⟩) .nil) 0 ⟨115, 47, 115, 51⟩) ⟨115, 29, 115, 51⟩) (.sl (.var 0 "_law_letter" ⟨115, 54, 115, 65⟩) (.so (.cint 4 0 ⟨115, 66, 115, 67⟩)) .no ⟨115, 66, 115, 68⟩ ⟨115, 54, 115, 69⟩) ⟨115, 29, 115, 69⟩) .nil) ⟨115, 28, 115, 70⟩) ⟨115, 16, 115, 70⟩) ⟨115, 4, 115, 70⟩) (.cons (.set 5 "_law_some" ⟨116, 4, 116, 13⟩ (.bin .Add (.var 5 "_law_some" ⟨116, 16, 116, 25⟩) (.lst (.cons (.sl (.var 0 "_law_letter" ⟨116, 29, 116, 40⟩) .no (.so (.un .USub (.cint 1 0 ⟨116, 43, 116, 44⟩) ⟨116, 42, 116, 44⟩)) ⟨116, 41, 116, 44⟩ ⟨116, 29, 116, 45⟩) (.cons (.bin .Add (.var 0 "_law_letter" ⟨116, 47, 116, 58⟩) (.tup (.cons (.cint 0 0 ⟨116, 62, 116, 63⟩) .nil) 0 ⟨116, 61, 116, 65⟩) ⟨116, 47, 116, 65⟩) (.cons (.bi .list ⟨116, 67, 116, 71⟩ (.cons (.var 0 "_law_letter" ⟨116, 72, 116, 83⟩) .nil) ⟨116, 67, 116, 84⟩) (.cons (.bin .Add (.tup (.cons (.bin .Add (.ix (.var 0 "_law_letter" ⟨116, 87, 116, 98⟩) (.cint 0 0 ⟨116, 99, 116, 100⟩) ⟨116, 87, 116, 101⟩) (.cstr "s" 0 ⟨116, 104, 116, 107⟩) ⟨116, 87, 116, 107⟩) .nil) 0 ⟨116, 86, 116, 109⟩) (.sl (.var 0 "_law_letter" ⟨116, 112, 116, 123⟩) (.so (.cint 1 0 ⟨116, 124, 116, 125⟩)) .no ⟨116, 124, 116, 126⟩ ⟨116, 112, 116, 127⟩) ⟨116, 86, 116, 127⟩) (.cons (.bin .Add (.tup (.cons (.cnon 0 ⟨116, 130, 116, 134⟩) .nil) 0 ⟨116, 129, 116, 136⟩) (.sl (.var 0 "_law_letter" ⟨116, 139, 116, 150⟩) (.so (.cint 1 0 ⟨116, 151, 116, 152⟩)) .no ⟨116, 151, 116, 153⟩ ⟨116, 139, 116, 154⟩) ⟨116, 129, 116, 154⟩) .nil))))) ⟨116, 28, 116, 155⟩) ⟨116, 16, 116, 155⟩) ⟨116, 4, 116, 155⟩) (.cons (.set 5 "_law_some" ⟨117, 4, 117, 13⟩ (.bin .Add (.var 5 "_law_some" ⟨117, 16, 117, 25⟩) (.lst (.cons (.bin .Add (.bin .Add (.sl (.var 0 "_law_letter" ⟨117, 29, 117, 40⟩) .no (.so (.cint 1 0 ⟨117, 42, 117, 43⟩)) ⟨117, 41, 117, 43⟩ ⟨117, 29, 117, 44⟩) (.tup (.cons (.cstr "A@b" 0 ⟨117, 48, 117, 53⟩) .nil) 0 ⟨117, 47, 117, 55⟩) ⟨117, 29, 117, 55⟩) (.sl (.var 0 "_law_letter" ⟨117, 58, 117, 69⟩) (.so (.cint 2 0 ⟨117, 70, 117, 71⟩)) .no ⟨117, 70, 117, 72⟩ ⟨117, 58, 117, 73⟩) ⟨117, 29, 117, 73⟩) (.cons (.bin .Add (.bin .Add (.sl (.var 0 "_law_letter" ⟨117, 75, 117, 86⟩) .no (.so (.cint 2 0 ⟨117, 88, 117, 89⟩)) ⟨117, 87, 117, 89⟩ ⟨117, 75, 117, 90⟩) (.tup (.cons (.cnon 0 ⟨117, 94, 117, 98⟩) .nil) 0 ⟨117, 93, 117, 100⟩) ⟨117, 75, 117, 100⟩) (.sl (.var 0 "_law_letter" ⟨117, 103, 117, 114⟩) (.so (.cint 3 0 ⟨117, 115, 117, 116⟩)) .no ⟨117, 115, 117, 117⟩ ⟨117, 103, 117, 118⟩) ⟨117, 75, 117, 118⟩) .nil)) ⟨117, 28, 117, 119⟩) ⟨117, 16, 117, 119⟩) ⟨117, 4, 117, 119⟩) (.cons (.set 5 "_law_some" ⟨118, 4, 118, 13⟩ (.bin .Add (.var 5 "_law_some" ⟨118, 16, 118, 25⟩) (.lst (.cons (.bin .Add (.bin .Add (.sl (.var 0 "_law_letter" ⟨118, 29, 118, 40⟩) .no (.so (.cint 3 0 ⟨118, 42, 118, 43⟩)) ⟨118, 41, 118, 43⟩ ⟨118, 29, 118, 44⟩) (.tup (.cons (.un .USub (.cint 1 0 ⟨118, 49, 118, 50⟩) ⟨118, 48, 118, 50⟩) .nil) 0 ⟨118, 47, 118, 52⟩) ⟨118, 29, 118, 52⟩) (.sl (.var 0 "_law_letter" ⟨118, 55, 118, 66⟩) (.so (.cint 4 0 ⟨118, 67, 118, 68⟩)) .no ⟨118, 67, 118, 69⟩ ⟨118, 55, 118, 70⟩) ⟨118, 29, 118, 70⟩) .nil) ⟨118, 28, 118, 71⟩) ⟨118, 16, 118, 71⟩) ⟨118, 4, 118, 71⟩) (.cons (.set 5 "_law_some" ⟨119, 4, 119, 13⟩ (.bin .Add (.var 5 "_law_some" ⟨119, 16, 119, 25⟩) (.lst (.cons (.bin .Add (.bin .Add (.sl (.var 0 "_law_letter" ⟨119, 29, 119, 40⟩) .no (.so (.cint 3 0 ⟨119, 42, 119, 43⟩)) ⟨119, 41, 119, 43⟩ ⟨119, 29, 119, 44⟩) (.tup (.cons (.cbl true 0 ⟨119, 48, 119, 52⟩) .nil) 0 ⟨119, 47, 119, 54⟩) ⟨119, 29, 119, 54⟩) (.sl (.var 0 "_law_letter" ⟨119, 57, 119, 68⟩) (.so (.cint 4 0 ⟨119, 69, 119, 70⟩)) .no ⟨119, 69, 119, 71⟩ ⟨119, 57, 119, 72⟩) ⟨119, 29, 119, 72⟩) (.cons (.tup .nil 0 ⟨119, 74, 119, 76⟩) (.cons (.cnon 0 ⟨119, 78, 119, 82⟩) (.cons (.ix (.var 0 "_law_letter" ⟨119, 84, 119, 95⟩) (.cint 0 0 ⟨119, 96, 119, 97⟩) ⟨119, 84, 119, 98⟩) (.cons (.bin .Add (.bin .Add (.tup (.cons (.cstr "wish" 0 ⟨119, 101, 119, 107⟩) .nil) 0 ⟨119, 100, 119, 109⟩) (.sl (.var 0 "_law_letter" ⟨119, 112, 119, 123⟩) (.so (.cint 1 0 ⟨119, 124, 119, 125⟩)) .no ⟨119, 124, 119, 126⟩ ⟨119, 112, 119, 127⟩) ⟨119, 100, 119, 127⟩) (.tup (.cons (.cint 1 0 ⟨119, 131, 119, 132⟩) (.cons (.cint 2 0 ⟨119, 134, 119, 135⟩) .nil)) 0 ⟨119, 130, 119, 136⟩) ⟨119, 100, 119, 136⟩) (.cons (.sl (.var 0 "_law_letter" ⟨119, 138, 119, 149⟩) (.so (.cint 1 0 ⟨119, 150, 119, 151⟩)) .no ⟨119, 150, 119, 152⟩ ⟨119, 138, 119, 153⟩) .nil)))))) ⟨119, 28, 119, 154⟩) ⟨119, 16, 119, 154⟩) ⟨119, 4, 119, 154⟩) (.cons (.ifs (.and_ (.cmp .Eq (.ix (.var 0 "_law_letter" ⟨120, 7, 120, 18⟩) (.cint 0 0 ⟨120, 19, 120, 20⟩) ⟨120, 7, 120, 21⟩) (.cstr "answer" 0 ⟨120, 25, 120, 33⟩) ⟨120, 7, 120, 33⟩) (.cons (.cmp .Eq (.bin .Mod (.ix (.var 1 "_law_xs" ⟨120, 38, 120, 45⟩) (.cint 13 0 ⟨120, 46, 120, 48⟩) ⟨120, 38, 120, 49⟩) (.cint 2 0 ⟨120, 52, 120, 53⟩) ⟨120, 38, 120, 53⟩) (.cint 1 0 ⟨120, 57, 120, 58⟩) ⟨120, 38, 120, 58⟩) .nil) ⟨120, 7, 120, 58⟩) (.cons (.set 5 "_law_some" ⟨121, 8, 121, 17⟩ (.lst (.cons (.tup (.cons (.cstr "lets" 0 ⟨121, 22, 121, 28⟩) (.cons (.cint 2 0 ⟨121, 30, 121, 31⟩) .nil)) 0 ⟨121, 21, 121, 32⟩) (.cons (.tup (.cons (.cstr "refuses" 0 ⟨121, 35, 121, 44⟩) (.cons (.cint 0 0 ⟨121, 46, 121, 47⟩) .nil)) 0 ⟨121, 34, 121, 48⟩) (.cons (.tup (.cons (.cstr "bars" 0 ⟨121, 51, 121, 57⟩) (.cons (.cint 7 0 ⟨121, 59, 121, 60⟩) .nil)) 0 ⟨121, 50, 121, 61⟩) (.cons (.tup (.cons (.cstr "open" 0 ⟨121, 64, 121, 70⟩) (.cons (.cint 1 0 ⟨121, 72, 121, 73⟩) .nil)) 0 ⟨121, 63, 121, 74⟩) (.cons (.tup (.cons (.cstr "gone" 0 ⟨121, 77, 121, 83⟩) (.cons (.cint 3 0 ⟨121, 85, 121, 86⟩) .nil)) 0 ⟨121, 76, 121, 87⟩) (.cons (.tup (.cons (.cstr "moved" 0 ⟨121, 90, 121, 97⟩) (.cons (.cint 0 0 ⟨121, 99, 121, 100⟩) .nil)) 0 ⟨121, 89, 121, 101⟩) (.cons (.tup (.cons (.cstr "moved" 0 ⟨121, 104, 121, 111⟩) (.cons (.cstr "a" 0 ⟨121, 113, 121, 116⟩) .nil)) 0 ⟨121, 103, 121, 117⟩) .nil))))))) ⟨121, 20, 121, 118⟩) ⟨121, 8, 121, 118⟩) (.cons (.set 5 "_law_some" ⟨122, 8, 122, 17⟩ (.bin .Add (.var 5 "_law_some" ⟨122, 20, 122, 29⟩) (.lst (.cons (.tup (.cons (.cstr "none" 0 ⟨122, 34, 122, 40⟩) (.cons (.cint 0 0 ⟨122, 42, 122, 43⟩) .nil)) 0 ⟨122, 33, 122, 44⟩) (.cons (.tup (.cons (.cstr "asks" 0 ⟨122, 47, 122, 53⟩) (.cons (.cint 0 0 ⟨122, 55, 122, 56⟩) .nil)) 0 ⟨122, 46, 122, 57⟩) (.cons (.tup (.cons (.cstr "lets" 0 ⟨122, 60, 122, 66⟩) (.cons (.cstr "a@b" 0 ⟨122, 68, 122, 73⟩) .nil)) 0 ⟨122, 59, 122, 74⟩) (.cons (.tup (.cons (.cstr "gone" 0 ⟨122, 77, 122, 83⟩) (.cons (.cstr "a@b" 0 ⟨122, 85, 122, 90⟩) .nil)) 0 ⟨122, 76, 122, 91⟩) (.cons (.tup (.cons (.cstr "bars" 0 ⟨122, 94, 122, 100⟩) (.cons (.cnon 0 ⟨122, 102, 122, 106⟩) .nil)) 0 ⟨122, 93, 122, 107⟩) (.cons (.tup (.cons (.cstr "Open" 0 ⟨122, 110, 122, 116⟩) (.cons (.cint 0 0 ⟨122, 118, 122, 119⟩) .nil)) 0 ⟨122, 109, 122, 120⟩) .nil)))))) ⟨122, 32, 122, 121⟩) ⟨122, 20, 122, 121⟩) ⟨122, 8, 122, 121⟩) (.cons (.ret (.bin .Add (.sl (.var 0 "_law_letter" ⟨123, 15, 123, 26⟩) .no (.so (.cint 4 0 ⟨123, 28, 123, 29⟩)) ⟨123, 27, 123, 29⟩ ⟨123, 15, 123, 30⟩) (.ix (.var 5 "_law_some" ⟨123, 33, 123, 42⟩) (.bin .Mod (.ix (.var 1 "_law_xs" ⟨123, 43, 123, 50⟩) (.cint 12 0 ⟨123, 51, 123, 53⟩) ⟨123, 43, 123, 54⟩) (.cint 13 0 ⟨123, 57, 123, 59⟩) ⟨123, 43, 123, 59⟩) ⟨123, 33, 123, 60⟩) ⟨123, 15, 123, 60⟩) ⟨123, 8, 123, 60⟩) .nil))) .nil ⟨120, 4, 123, 60⟩) (.cons (.ret (.ix (.var 5 "_law_some" ⟨124, 11, 124, 20⟩) (.bin .Mod (.ix (.var 1 "_law_xs" ⟨124, 21, 124, 28⟩) (.cint 12 0 ⟨124, 29, 124, 31⟩) ⟨124, 21, 124, 32⟩) (.cint 17 0 ⟨124, 35, 124, 37⟩) ⟨124, 21, 124, 37⟩) ⟨124, 11, 124, 38⟩) ⟨124, 4, 124, 38⟩) .nil))))))))))
abbrev n18 : List Str := ["_law_letter", "_law_xs", "_law_first", "_law_second", "_law_near", "_law_some"]
abbrev p18 : List Str := ["_law_letter", "_law_xs"]
/-! law -/
def b19_0 : CB := (.cons (.seto 9 "_law_homes" ⟨135, 12, 135, 22⟩ (.lst (.cons (.call 16 "_law_home" ⟨135, 26, 135, 35⟩ (.cons (.var 4 "_law_first" ⟨135, 36, 135, 46⟩) .nil) ⟨135, 26, 135, 47⟩) (.cons (.call 16 "_law_home" ⟨135, 49, 135, 58⟩ (.cons (.var 5 "_law_second" ⟨135, 59, 135, 70⟩) .nil) ⟨135, 49, 135, 71⟩) .nil)) ⟨135, 25, 135, 72⟩) ⟨135, 12, 135, 72⟩) (.cons (.ifs (.cmp .Eq (.ix (.var 8 "_law_letter" ⟨136, 15, 136, 26⟩) (.cint 0 0 ⟨136, 27, 136, 28⟩) ⟨136, 15, 136, 29⟩) (.cstr "answer" 0 ⟨136, 33, 136, 41⟩) ⟨136, 15, 136, 41⟩) (.cons (.rev 9 "_law_homes" ⟨137, 16, 137, 26⟩ ⟨137, 16, 137, 34⟩ ⟨137, 16, 137, 36⟩ ⟨137, 16, 137, 36⟩) .nil) .nil ⟨136, 12, 137, 36⟩) (.cons (.ifs (.or_ (.cmp .IsNot (.call 9 "is_letter" ⟨138, 15, 138, 24⟩ (.cons (.var 8 "_law_letter" ⟨138, 25, 138, 36⟩) .nil) ⟨138, 15, 138, 37⟩) (.cbl true 0 ⟨138, 45, 138, 49⟩) ⟨138, 15, 138, 49⟩) (.cons (.cmp .NotEq (.call 17 "_law_told" ⟨138, 53, 138, 62⟩ (.cons (.var 8 "_law_letter" ⟨138, 63, 138, 74⟩) .nil) ⟨138, 53, 138, 75⟩) (.var 9 "_law_homes" ⟨138, 79, 138, 89⟩) ⟨138, 53, 138, 89⟩) .nil) ⟨138, 15, 138, 89⟩) (.cons (.ret (.cbl false 0 ⟨139, 23, 139, 28⟩) ⟨139, 16, 139, 28⟩) .nil) .nil ⟨138, 12, 139, 28⟩) (.cons (.set 10 "_law_bent_here" ⟨140, 12, 140, 26⟩ (.call 18 "_law_bent" ⟨140, 29, 140, 38⟩ (.cons (.var 8 "_law_letter" ⟨140, 39, 140, 50⟩) (.cons (.var 2 "_law_xs" ⟨140, 52, 140, 59⟩) .nil)) ⟨140, 29, 140, 60⟩) ⟨140, 12, 140, 60⟩) (.cons (.ifs (.or_ (.cmp .IsNot (.call 9 "is_letter" ⟨141, 15, 141, 24⟩ (.cons (.var 10 "_law_bent_here" ⟨141, 25, 141, 39⟩) .nil) ⟨141, 15, 141, 40⟩) (.cbl false 0 ⟨141, 48, 141, 53⟩) ⟨141, 15, 141, 53⟩) (.cons (.cmp .NotEq (.call 17 "_law_told" ⟨141, 57, 141, 66⟩ (.cons (.var 10 "_law_bent_here" ⟨141, 67, 141, 81⟩) .nil) ⟨141, 57, 141, 82⟩) (.lst (.cons (.cbl true 0 ⟨141, 87, 141, 91⟩) (.cons (.cbl true 0 ⟨141, 93, 141, 97⟩) .nil)) ⟨141, 86, 141, 98⟩) ⟨141, 57, 141, 98⟩) .nil) ⟨141, 15, 141, 98⟩) (.cons (.ret (.cbl false 0 ⟨142, 23, 142, 28⟩) ⟨142, 16, 142, 28⟩) .nil) .nil ⟨141, 12, 142, 28⟩) .nil)))))
def b19_1 : CB := (.cons (.set 2 "_law_xs" ⟨127, 8, 127, 15⟩ (.call 13 "_law_draws" ⟨127, 18, 127, 28⟩ (.cons (.var 1 "_law_cell" ⟨127, 29, 127, 38⟩) (.cons (.cint 20 0 ⟨127, 40, 127, 42⟩) .nil)) ⟨127, 18, 127, 43⟩) ⟨127, 8, 127, 43⟩) (.cons (.set 3 "_law_houses_here" ⟨128, 8, 128, 24⟩ (.call 14 "_law_houses" ⟨128, 27, 128, 38⟩ (.cons (.ix (.var 2 "_law_xs" ⟨128, 39, 128, 46⟩) (.cint 0 0 ⟨128, 47, 128, 48⟩) ⟨128, 39, 128, 49⟩) (.cons (.cint 2 0 ⟨128, 51, 128, 52⟩) .nil)) ⟨128, 27, 128, 53⟩) ⟨128, 8, 128, 53⟩) (.cons (.set 4 "_law_first" ⟨129, 8, 129, 18⟩ (.ix (.call 15 "_law_people" ⟨129, 21, 129, 32⟩ (.cons (.sl (.var 3 "_law_houses_here" ⟨129, 33, 129, 49⟩) .no (.so (.cint 1 0 ⟨129, 51, 129, 52⟩)) ⟨129, 50, 129, 52⟩ ⟨129, 33, 129, 53⟩) (.cons (.sl (.var 2 "_law_xs" ⟨129, 55, 129, 62⟩) (.so (.cint 1 0 ⟨129, 63, 129, 64⟩)) .no ⟨129, 63, 129, 65⟩ ⟨129, 55, 129, 66⟩) (.cons (.cint 1 0 ⟨129, 68, 129, 69⟩) .nil))) ⟨129, 21, 129, 70⟩) (.cint 0 0 ⟨129, 71, 129, 72⟩) ⟨129, 21, 129, 73⟩) ⟨129, 8, 129, 73⟩) (.cons (.set 5 "_law_second" ⟨130, 8, 130, 19⟩ (.ix (.call 15 "_law_people" ⟨130, 22, 130, 33⟩ (.cons (.sl (.var 3 "_law_houses_here" ⟨130, 34, 130, 50⟩) (.so (.cint 1 0 ⟨130, 51, 130, 52⟩)) .no ⟨130, 51, 130, 53⟩ ⟨130, 34, 130, 54⟩) (.cons (.sl (.var 2 "_law_xs" ⟨130, 56, 130, 63⟩) (.so (.cint 2 0 ⟨130, 64, 130, 65⟩)) .no ⟨130, 64, 130, 66⟩ ⟨130, 56, 130, 67⟩) (.cons (.cint 1 0 ⟨130, 69, 130, 70⟩) .nil))) ⟨130, 22, 130, 71⟩) (.cint 0 0 ⟨130, 72, 130, 73⟩) ⟨130, 22, 130, 74⟩) ⟨130, 8, 130, 74⟩) (.cons (.set 6 "_law_number" ⟨131, 8, 131, 19⟩ (.bin .Add (.cint 2 0 ⟨131, 22, 131, 23⟩) (.bin .Mod (.bin .Add (.ix (.var 2 "_law_xs" ⟨131, 27, 131, 34⟩) (.cint 15 0 ⟨131, 35, 131, 37⟩) ⟨131, 27, 131, 38⟩) (.bin .Mult (.bin .Pow (.cint 720 0 ⟨131, 41, 131, 44⟩) (.cint 6 0 ⟨131, 48, 131, 49⟩) ⟨131, 41, 131, 49⟩) (.ix (.var 2 "_law_xs" ⟨131, 52, 131, 59⟩) (.cint 16 0 ⟨131, 60, 131, 62⟩) ⟨131, 52, 131, 63⟩) ⟨131, 41, 131, 63⟩) ⟨131, 27, 131, 63⟩) (.bin .Pow (.cint 10 0 ⟨131, 67, 131, 69⟩) (.cint 19 0 ⟨131, 73, 131, 75⟩) ⟨131, 67, 131, 75⟩) ⟨131, 26, 131, 75⟩) ⟨131, 22, 131, 75⟩) ⟨131, 8, 131, 75⟩) (.cons (.set 7 "_law_answer" ⟨132, 8, 132, 19⟩ (.lst (.cons (.tup (.cons (.cstr "lets" 0 ⟨132, 24, 132, 30⟩) (.cons (.bin .Add (.cint 1 0 ⟨132, 32, 132, 33⟩) (.bin .Mult (.cint 2 0 ⟨132, 36, 132, 37⟩) (.ix (.var 2 "_law_xs" ⟨132, 40, 132, 47⟩) (.cint 17 0 ⟨132, 48, 132, 50⟩) ⟨132, 40, 132, 51⟩) ⟨132, 36, 132, 51⟩) ⟨132, 32, 132, 51⟩) .nil)) 0 ⟨132, 23, 132, 52⟩) (.cons (.tup (.cons (.cstr "refuses" 0 ⟨132, 55, 132, 64⟩) (.cons (.cint 1 0 ⟨132, 66, 132, 67⟩) .nil)) 0 ⟨132, 54, 132, 68⟩) (.cons (.tup (.cons (.cstr "bars" 0 ⟨132, 71, 132, 77⟩) (.cons (.cint 0 0 ⟨132, 79, 132, 80⟩) .nil)) 0 ⟨132, 70, 132, 81⟩) (.cons (.tup (.cons (.cstr "open" 0 ⟨132, 84, 132, 90⟩) (.cons (.cint 0 0 ⟨132, 92, 132, 93⟩) .nil)) 0 ⟨132, 83, 132, 94⟩) (.cons (.tup (.cons (.cstr "gone" 0 ⟨132, 97, 132, 103⟩) (.cons (.cint 0 0 ⟨132, 105, 132, 106⟩) .nil)) 0 ⟨132, 96, 132, 107⟩) .nil))))) ⟨132, 22, 132, 108⟩) ⟨132, 8, 132, 108⟩) (.cons (.set 7 "_law_answer" ⟨133, 8, 133, 19⟩ (.ix (.bin .Add (.var 7 "_law_answer" ⟨133, 23, 133, 34⟩) (.lst (.cons (.tup (.cons (.cstr "moved" 0 ⟨133, 39, 133, 46⟩) (.cons (.cstr "a@b" 0 ⟨133, 48, 133, 53⟩) .nil)) 0 ⟨133, 38, 133, 54⟩) .nil) ⟨133, 37, 133, 55⟩) ⟨133, 23, 133, 55⟩) (.bin .Mod (.ix (.var 2 "_law_xs" ⟨133, 57, 133, 64⟩) (.cint 18 0 ⟨133, 65, 133, 67⟩) ⟨133, 57, 133, 68⟩) (.cint 6 0 ⟨133, 71, 133, 72⟩) ⟨133, 57, 133, 72⟩) ⟨133, 22, 133, 73⟩) ⟨133, 8, 133, 73⟩) (.cons (.for_ (.nm 8 "_law_letter" ⟨134, 12, 134, 23⟩) (.sq (.tup (.cons (.tup (.cons (.cstr "wish" 0 ⟨134, 29, 134, 35⟩) (.cons (.var 4 "_law_first" ⟨134, 37, 134, 47⟩) (.cons (.var 5 "_law_second" ⟨134, 49, 134, 60⟩) (.cons (.var 6 "_law_number" ⟨134, 62, 134, 73⟩) .nil)))) 0 ⟨134, 28, 134, 74⟩) (.cons (.bin .Add (.tup (.cons (.cstr "answer" 0 ⟨134, 77, 134, 85⟩) (.cons (.var 4 "_law_first" ⟨134, 87, 134, 97⟩) (.cons (.var 5 "_law_second" ⟨134, 99, 134, 110⟩) (.cons (.var 6 "_law_number" ⟨134, 112, 134, 123⟩) .nil)))) 0 ⟨134, 76, 134, 124⟩) (.var 7 "_law_answer" ⟨134, 127, 134, 138⟩) ⟨134, 76, 134, 138⟩) .nil)) 0 ⟨134, 27, 134, 139⟩)) b19_0 ⟨134, 8, 142, 28⟩) .nil))))))))
def b19 : CB := (.cons (.for_ (.nm 1 "_law_cell" ⟨126, 8, 126, 17⟩) (.sq (.bin .Add (.sl (.var 0 "_law_script" ⟨126, 21, 126, 32⟩) .no (.so (.cint 30 0 ⟨126, 34, 126, 36⟩)) ⟨126, 33, 126, 36⟩ ⟨126, 21, 126, 37⟩) (.lst (.cons (.cint 0 0 ⟨126, 41, 126, 42⟩) .nil) ⟨126, 40, 126, 43⟩) ⟨126, 21, 126, 43⟩)) b19_1 ⟨126, 4, 142, 28⟩) (.cons (.ret (.cbl true 0 ⟨143, 11, 143, 15⟩) ⟨143, 4, 143, 15⟩) .nil))
abbrev n19 : List Str := ["_law_script", "_law_cell", "_law_xs", "_law_houses_here", "_law_first", "_law_second", "_law_number", "_law_answer", "_law_letter", "_law_homes", "_law_bent_here"]
abbrev p19 : List Str := ["_law_script"]
def nm : Nat → Str
  | 0 => "is_of"
  | 1 => "is_house"
  | 2 => "is_person"
  | 3 => "check_person"
  | 4 => "house_of"
  | 5 => "is_whole"
  | 6 => "asks"
  | 7 => "is_at"
  | 8 => "is_answer"
  | 9 => "is_letter"
  | 10 => "ends"
  | 11 => "from_house"
  | 12 => "to_house"
  | 13 => "_law_draws"
  | 14 => "_law_houses"
  | 15 => "_law_people"
  | 16 => "_law_home"
  | 17 => "_law_told"
  | 18 => "_law_bent"
  | 19 => "law"
  | _ => ""
abbrev c_LETTERS : Str := "abcdefghijklmnopqrstuvwxyz"
def cst : List (Str × D) := [("LETTERS", (.str "abcdefghijklmnopqrstuvwxyz")), ("SIGNS", (.str (c_LETTERS ++ "0123456789-"))), ("MOST_HOUSE", (.int 6)), ("MOST_NAME", (.int 8)), ("AT_WISH", (.tup [(.str "lets"), (.str "refuses")])), ("AT_NOUGHT", (.tup [(.str "bars"), (.str "open"), (.str "gone")]))]
def sub : Nat → Nat → Bool
  | 0, 0 => true
  | 1, 0 => true
  | 1, 1 => true
  | 2, 0 => true
  | 2, 2 => true
  | 3, 0 => true
  | 3, 3 => true
  | _, _ => false
def PG : Prog := ⟨[⟨3, 4, b0⟩, ⟨1, 1, b1⟩, ⟨1, 3, b2⟩, ⟨1, 1, b3⟩, ⟨1, 1, b4⟩, ⟨1, 1, b5⟩, ⟨1, 1, b6⟩, ⟨2, 2, b7⟩, ⟨1, 4, b8⟩, ⟨1, 1, b9⟩, ⟨1, 2, b10⟩, ⟨1, 1, b11⟩, ⟨1, 1, b12⟩, ⟨2, 8, b13⟩, ⟨2, 4, b14⟩, ⟨3, 10, b15⟩, ⟨1, 1, b16⟩, ⟨1, 4, b17⟩, ⟨2, 6, b18⟩, ⟨1, 11, b19⟩], cst, ["BookError", "NoPerson", "NoHouse", "NoLetter"], sub⟩
@[simp] theorem cst0 : PG.cst[0]? = some (("LETTERS" : Str), ((.str "abcdefghijklmnopqrstuvwxyz") : D)) := rfl
@[simp] theorem cst1 : PG.cst[1]? = some (("SIGNS" : Str), ((.str (c_LETTERS ++ "0123456789-")) : D)) := rfl
@[simp] theorem cst2 : PG.cst[2]? = some (("MOST_HOUSE" : Str), ((.int 6) : D)) := rfl
@[simp] theorem cst3 : PG.cst[3]? = some (("MOST_NAME" : Str), ((.int 8) : D)) := rfl
@[simp] theorem cst4 : PG.cst[4]? = some (("AT_WISH" : Str), ((.tup [(.str "lets"), (.str "refuses")]) : D)) := rfl
@[simp] theorem cst5 : PG.cst[5]? = some (("AT_NOUGHT" : Str), ((.tup [(.str "bars"), (.str "open"), (.str "gone")]) : D)) := rfl
/-! what the text says -/
theorem s0 : FnScope n0 p0 (defScope (topS 10)) := ⟨rfl, rfl, rfl, by decide +kernel, rfl, by decide +kernel, by decide +kernel⟩
theorem u0 : defBody (topS 10) = CB.up b0 := by rfl
theorem o0 : okB PG nm n0 (defScope (topS 10)) b0 = true := by decide +kernel
theorem s1 : FnScope n1 p1 (defScope (topS 11)) := ⟨rfl, rfl, rfl, by decide +kernel, rfl, by decide +kernel, by decide +kernel⟩
theorem u1 : defBody (topS 11) = CB.up b1 := by rfl
theorem o1 : okB PG nm n1 (defScope (topS 11)) b1 = true := by decide +kernel
theorem s2 : FnScope n2 p2 (defScope (topS 12)) := ⟨rfl, rfl, rfl, by decide +kernel, rfl, by decide +kernel, by decide +kernel⟩
theorem u2 : defBody (topS 12) = CB.up b2 := by rfl
theorem o2 : okB PG nm n2 (defScope (topS 12)) b2 = true := by decide +kernel
theorem s3 : FnScope n3 p3 (defScope (topS 13)) := ⟨rfl, rfl, rfl, by decide +kernel, rfl, by decide +kernel, by decide +kernel⟩
theorem u3 : defBody (topS 13) = CB.up b3 := by rfl
theorem o3 : okB PG nm n3 (defScope (topS 13)) b3 = true := by decide +kernel
theorem s4 : FnScope n4 p4 (defScope (topS 14)) := ⟨rfl, rfl, rfl, by decide +kernel, rfl, by decide +kernel, by decide +kernel⟩
theorem u4 : defBody (topS 14) = CB.up b4 := by rfl
theorem o4 : okB PG nm n4 (defScope (topS 14)) b4 = true := by decide +kernel
theorem s5 : FnScope n5 p5 (defScope (topS 18)) := ⟨rfl, rfl, rfl, by decide +kernel, rfl, by decide +kernel, by decide +kernel⟩
theorem u5 : defBody (topS 18) = CB.up b5 := by rfl
theorem o5 : okB PG nm n5 (defScope (topS 18)) b5 = true := by decide +kernel
theorem s6 : FnScope n6 p6 (defScope (topS 19)) := ⟨rfl, rfl, rfl, by decide +kernel, rfl, by decide +kernel, by decide +kernel⟩
theorem u6 : defBody (topS 19) = CB.up b6 := by rfl
theorem o6 : okB PG nm n6 (defScope (topS 19)) b6 = true := by decide +kernel
theorem s7 : FnScope n7 p7 (defScope (topS 20)) := ⟨rfl, rfl, rfl, by decide +kernel, rfl, by decide +kernel, by decide +kernel⟩
theorem u7 : defBody (topS 20) = CB.up b7 := by rfl
theorem o7 : okB PG nm n7 (defScope (topS 20)) b7 = true := by decide +kernel
theorem s8 : FnScope n8 p8 (defScope (topS 21)) := ⟨rfl, rfl, rfl, by decide +kernel, rfl, by decide +kernel, by decide +kernel⟩
theorem u8 : defBody (topS 21) = CB.up b8 := by rfl
theorem o8 : okB PG nm n8 (defScope (topS 21)) b8 = true := by decide +kernel
theorem s9 : FnScope n9 p9 (defScope (topS 23)) := ⟨rfl, rfl, rfl, by decide +kernel, rfl, by decide +kernel, by decide +kernel⟩
theorem u9 : defBody (topS 23) = CB.up b9 := by rfl
theorem o9 : okB PG nm n9 (defScope (topS 23)) b9 = true := by decide +kernel
theorem s10 : FnScope n10 p10 (defScope (topS 24)) := ⟨rfl, rfl, rfl, by decide +kernel, rfl, by decide +kernel, by decide +kernel⟩
theorem u10 : defBody (topS 24) = CB.up b10 := by rfl
theorem o10 : okB PG nm n10 (defScope (topS 24)) b10 = true := by decide +kernel
theorem s11 : FnScope n11 p11 (defScope (topS 25)) := ⟨rfl, rfl, rfl, by decide +kernel, rfl, by decide +kernel, by decide +kernel⟩
theorem u11 : defBody (topS 25) = CB.up b11 := by rfl
theorem o11 : okB PG nm n11 (defScope (topS 25)) b11 = true := by decide +kernel
theorem s12 : FnScope n12 p12 (defScope (topS 26)) := ⟨rfl, rfl, rfl, by decide +kernel, rfl, by decide +kernel, by decide +kernel⟩
theorem u12 : defBody (topS 26) = CB.up b12 := by rfl
theorem o12 : okB PG nm n12 (defScope (topS 26)) b12 = true := by decide +kernel
theorem s13 : FnScope n13 p13 (defScope (topS 28)) := ⟨rfl, rfl, rfl, by decide +kernel, rfl, by decide +kernel, by decide +kernel⟩
theorem u13 : defBody (topS 28) = CB.up b13 := by rfl
theorem o13 : okB PG nm n13 (defScope (topS 28)) b13 = true := by decide +kernel
theorem s14 : FnScope n14 p14 (defScope (topS 29)) := ⟨rfl, rfl, rfl, by decide +kernel, rfl, by decide +kernel, by decide +kernel⟩
theorem u14 : defBody (topS 29) = CB.up b14 := by rfl
theorem o14 : okB PG nm n14 (defScope (topS 29)) b14 = true := by decide +kernel
theorem s15 : FnScope n15 p15 (defScope (topS 30)) := ⟨rfl, rfl, rfl, by decide +kernel, rfl, by decide +kernel, by decide +kernel⟩
theorem u15 : defBody (topS 30) = CB.up b15 := by rfl
theorem o15 : okB PG nm n15 (defScope (topS 30)) b15 = true := by decide +kernel
theorem s16 : FnScope n16 p16 (defScope (topS 31)) := ⟨rfl, rfl, rfl, by decide +kernel, rfl, by decide +kernel, by decide +kernel⟩
theorem u16 : defBody (topS 31) = CB.up b16 := by rfl
theorem o16 : okB PG nm n16 (defScope (topS 31)) b16 = true := by decide +kernel
theorem s17 : FnScope n17 p17 (defScope (topS 32)) := ⟨rfl, rfl, rfl, by decide +kernel, rfl, by decide +kernel, by decide +kernel⟩
theorem u17 : defBody (topS 32) = CB.up b17 := by rfl
theorem o17 : okB PG nm n17 (defScope (topS 32)) b17 = true := by decide +kernel
theorem s18 : FnScope n18 p18 (defScope (topS 33)) := ⟨rfl, rfl, rfl, by decide +kernel, rfl, by decide +kernel, by decide +kernel⟩
theorem u18 : defBody (topS 33) = CB.up b18 := by rfl
theorem o18 : okB PG nm n18 (defScope (topS 33)) b18 = true := by decide +kernel
theorem s19 : FnScope n19 p19 (defScope (topS 34)) := ⟨rfl, rfl, rfl, by decide +kernel, rfl, by decide +kernel, by decide +kernel⟩
theorem u19 : defBody (topS 34) = CB.up b19 := by rfl
theorem o19 : okB PG nm n19 (defScope (topS 34)) b19 = true := by decide +kernel
def tab (f0 f1 f2 f3 f4 f5 f6 f7 f8 f9 f10 f11 f12 f13 f14 f15 f16 f17 f18 f19 C0 C1 C2 C3 : Addr) : Tab := ⟨fun n => match n with
  | 0 => f0
  | 1 => f1
  | 2 => f2
  | 3 => f3
  | 4 => f4
  | 5 => f5
  | 6 => f6
  | 7 => f7
  | 8 => f8
  | 9 => f9
  | 10 => f10
  | 11 => f11
  | 12 => f12
  | 13 => f13
  | 14 => f14
  | 15 => f15
  | 16 => f16
  | 17 => f17
  | 18 => f18
  | 19 => f19
  | _ => 0, fun n => match n with
  | 0 => C0
  | 1 => C1
  | 2 => C2
  | 3 => C3
  | _ => 0, none⟩
theorem all_mk {l : PySem.W.OpenLaw} {w : World} {K : PySem.W.Frag} {h : Heap} {mg : Str → Option Value} {fa : Addr} (X : K.In h) (G : h.Ns mainGlobals mg) (hfa : mg "law" = some (.ref fa))
    {f0 : Addr} {od0 an0 : Option Addr} {sl0 : Array (Option Value)} {oc0 kV0 dc0 pm0 cd0 ct0 : Value}
    {f1 : Addr} {od1 an1 : Option Addr} {sl1 : Array (Option Value)} {oc1 kV1 dc1 pm1 cd1 ct1 : Value}
    {f2 : Addr} {od2 an2 : Option Addr} {sl2 : Array (Option Value)} {oc2 kV2 dc2 pm2 cd2 ct2 : Value}
    {f3 : Addr} {od3 an3 : Option Addr} {sl3 : Array (Option Value)} {oc3 kV3 dc3 pm3 cd3 ct3 : Value}
    {f4 : Addr} {od4 an4 : Option Addr} {sl4 : Array (Option Value)} {oc4 kV4 dc4 pm4 cd4 ct4 : Value}
    {f5 : Addr} {od5 an5 : Option Addr} {sl5 : Array (Option Value)} {oc5 kV5 dc5 pm5 cd5 ct5 : Value}
    {f6 : Addr} {od6 an6 : Option Addr} {sl6 : Array (Option Value)} {oc6 kV6 dc6 pm6 cd6 ct6 : Value}
    {f7 : Addr} {od7 an7 : Option Addr} {sl7 : Array (Option Value)} {oc7 kV7 dc7 pm7 cd7 ct7 : Value}
    {f8 : Addr} {od8 an8 : Option Addr} {sl8 : Array (Option Value)} {oc8 kV8 dc8 pm8 cd8 ct8 : Value}
    {f9 : Addr} {od9 an9 : Option Addr} {sl9 : Array (Option Value)} {oc9 kV9 dc9 pm9 cd9 ct9 : Value}
    {f10 : Addr} {od10 an10 : Option Addr} {sl10 : Array (Option Value)} {oc10 kV10 dc10 pm10 cd10 ct10 : Value}
    {f11 : Addr} {od11 an11 : Option Addr} {sl11 : Array (Option Value)} {oc11 kV11 dc11 pm11 cd11 ct11 : Value}
    {f12 : Addr} {od12 an12 : Option Addr} {sl12 : Array (Option Value)} {oc12 kV12 dc12 pm12 cd12 ct12 : Value}
    {f13 : Addr} {od13 an13 : Option Addr} {sl13 : Array (Option Value)} {oc13 kV13 dc13 pm13 cd13 ct13 : Value}
    {f14 : Addr} {od14 an14 : Option Addr} {sl14 : Array (Option Value)} {oc14 kV14 dc14 pm14 cd14 ct14 : Value}
    {f15 : Addr} {od15 an15 : Option Addr} {sl15 : Array (Option Value)} {oc15 kV15 dc15 pm15 cd15 ct15 : Value}
    {f16 : Addr} {od16 an16 : Option Addr} {sl16 : Array (Option Value)} {oc16 kV16 dc16 pm16 cd16 ct16 : Value}
    {f17 : Addr} {od17 an17 : Option Addr} {sl17 : Array (Option Value)} {oc17 kV17 dc17 pm17 cd17 ct17 : Value}
    {f18 : Addr} {od18 an18 : Option Addr} {sl18 : Array (Option Value)} {oc18 kV18 dc18 pm18 cd18 ct18 : Value}
    {f19 : Addr} {od19 an19 : Option Addr} {sl19 : Array (Option Value)} {oc19 kV19 dc19 pm19 cd19 ct19 : Value}
    {gt0 : Tok}
    {gt1 : Tok}
    {gt2 : Tok}
    {gt3 : Tok}
    {g4 : Addr} {gd4 : Option Addr} {gm4 : Nat} {gs4 : Array (Option Value)} {t4_0 : Tok} {t4_1 : Tok}
    {g5 : Addr} {gd5 : Option Addr} {gm5 : Nat} {gs5 : Array (Option Value)} {t5_0 : Tok} {t5_1 : Tok} {t5_2 : Tok}
    {C0 : Addr}
    {C1 : Addr}
    {C2 : Addr}
    {C3 : Addr}
    (a0 : PySem.W.nsIn K mainGlobals "is_of" = some (some (.ref f0)))
    (l0 : K.lookup f0 = some ⟨oc0, od0, .func (PySem.W.fnOf "is_of" "is_of" (defArgs (topS 10)) (defBody (topS 10)) (defScope (topS 10)) .none kV0 dc0 pm0 an0 cd0 ct0), sl0⟩)
    (c0 : PySem.W.codeIn K cd0 "is_of" = true)
    (k0 : PySem.W.keepIn K (.ref f0) = true)
    (a1 : PySem.W.nsIn K mainGlobals "is_house" = some (some (.ref f1)))
    (l1 : K.lookup f1 = some ⟨oc1, od1, .func (PySem.W.fnOf "is_house" "is_house" (defArgs (topS 11)) (defBody (topS 11)) (defScope (topS 11)) .none kV1 dc1 pm1 an1 cd1 ct1), sl1⟩)
    (c1 : PySem.W.codeIn K cd1 "is_house" = true)
    (k1 : PySem.W.keepIn K (.ref f1) = true)
    (a2 : PySem.W.nsIn K mainGlobals "is_person" = some (some (.ref f2)))
    (l2 : K.lookup f2 = some ⟨oc2, od2, .func (PySem.W.fnOf "is_person" "is_person" (defArgs (topS 12)) (defBody (topS 12)) (defScope (topS 12)) .none kV2 dc2 pm2 an2 cd2 ct2), sl2⟩)
    (c2 : PySem.W.codeIn K cd2 "is_person" = true)
    (k2 : PySem.W.keepIn K (.ref f2) = true)
    (a3 : PySem.W.nsIn K mainGlobals "check_person" = some (some (.ref f3)))
    (l3 : K.lookup f3 = some ⟨oc3, od3, .func (PySem.W.fnOf "check_person" "check_person" (defArgs (topS 13)) (defBody (topS 13)) (defScope (topS 13)) .none kV3 dc3 pm3 an3 cd3 ct3), sl3⟩)
    (c3 : PySem.W.codeIn K cd3 "check_person" = true)
    (k3 : PySem.W.keepIn K (.ref f3) = true)
    (a4 : PySem.W.nsIn K mainGlobals "house_of" = some (some (.ref f4)))
    (l4 : K.lookup f4 = some ⟨oc4, od4, .func (PySem.W.fnOf "house_of" "house_of" (defArgs (topS 14)) (defBody (topS 14)) (defScope (topS 14)) .none kV4 dc4 pm4 an4 cd4 ct4), sl4⟩)
    (c4 : PySem.W.codeIn K cd4 "house_of" = true)
    (k4 : PySem.W.keepIn K (.ref f4) = true)
    (a5 : PySem.W.nsIn K mainGlobals "is_whole" = some (some (.ref f5)))
    (l5 : K.lookup f5 = some ⟨oc5, od5, .func (PySem.W.fnOf "is_whole" "is_whole" (defArgs (topS 18)) (defBody (topS 18)) (defScope (topS 18)) .none kV5 dc5 pm5 an5 cd5 ct5), sl5⟩)
    (c5 : PySem.W.codeIn K cd5 "is_whole" = true)
    (k5 : PySem.W.keepIn K (.ref f5) = true)
    (a6 : PySem.W.nsIn K mainGlobals "asks" = some (some (.ref f6)))
    (l6 : K.lookup f6 = some ⟨oc6, od6, .func (PySem.W.fnOf "asks" "asks" (defArgs (topS 19)) (defBody (topS 19)) (defScope (topS 19)) .none kV6 dc6 pm6 an6 cd6 ct6), sl6⟩)
    (c6 : PySem.W.codeIn K cd6 "asks" = true)
    (k6 : PySem.W.keepIn K (.ref f6) = true)
    (a7 : PySem.W.nsIn K mainGlobals "is_at" = some (some (.ref f7)))
    (l7 : K.lookup f7 = some ⟨oc7, od7, .func (PySem.W.fnOf "is_at" "is_at" (defArgs (topS 20)) (defBody (topS 20)) (defScope (topS 20)) .none kV7 dc7 pm7 an7 cd7 ct7), sl7⟩)
    (c7 : PySem.W.codeIn K cd7 "is_at" = true)
    (k7 : PySem.W.keepIn K (.ref f7) = true)
    (a8 : PySem.W.nsIn K mainGlobals "is_answer" = some (some (.ref f8)))
    (l8 : K.lookup f8 = some ⟨oc8, od8, .func (PySem.W.fnOf "is_answer" "is_answer" (defArgs (topS 21)) (defBody (topS 21)) (defScope (topS 21)) .none kV8 dc8 pm8 an8 cd8 ct8), sl8⟩)
    (c8 : PySem.W.codeIn K cd8 "is_answer" = true)
    (k8 : PySem.W.keepIn K (.ref f8) = true)
    (a9 : PySem.W.nsIn K mainGlobals "is_letter" = some (some (.ref f9)))
    (l9 : K.lookup f9 = some ⟨oc9, od9, .func (PySem.W.fnOf "is_letter" "is_letter" (defArgs (topS 23)) (defBody (topS 23)) (defScope (topS 23)) .none kV9 dc9 pm9 an9 cd9 ct9), sl9⟩)
    (c9 : PySem.W.codeIn K cd9 "is_letter" = true)
    (k9 : PySem.W.keepIn K (.ref f9) = true)
    (a10 : PySem.W.nsIn K mainGlobals "ends" = some (some (.ref f10)))
    (l10 : K.lookup f10 = some ⟨oc10, od10, .func (PySem.W.fnOf "ends" "ends" (defArgs (topS 24)) (defBody (topS 24)) (defScope (topS 24)) .none kV10 dc10 pm10 an10 cd10 ct10), sl10⟩)
    (c10 : PySem.W.codeIn K cd10 "ends" = true)
    (k10 : PySem.W.keepIn K (.ref f10) = true)
    (a11 : PySem.W.nsIn K mainGlobals "from_house" = some (some (.ref f11)))
    (l11 : K.lookup f11 = some ⟨oc11, od11, .func (PySem.W.fnOf "from_house" "from_house" (defArgs (topS 25)) (defBody (topS 25)) (defScope (topS 25)) .none kV11 dc11 pm11 an11 cd11 ct11), sl11⟩)
    (c11 : PySem.W.codeIn K cd11 "from_house" = true)
    (k11 : PySem.W.keepIn K (.ref f11) = true)
    (a12 : PySem.W.nsIn K mainGlobals "to_house" = some (some (.ref f12)))
    (l12 : K.lookup f12 = some ⟨oc12, od12, .func (PySem.W.fnOf "to_house" "to_house" (defArgs (topS 26)) (defBody (topS 26)) (defScope (topS 26)) .none kV12 dc12 pm12 an12 cd12 ct12), sl12⟩)
    (c12 : PySem.W.codeIn K cd12 "to_house" = true)
    (k12 : PySem.W.keepIn K (.ref f12) = true)
    (a13 : PySem.W.nsIn K mainGlobals "_law_draws" = some (some (.ref f13)))
    (l13 : K.lookup f13 = some ⟨oc13, od13, .func (PySem.W.fnOf "_law_draws" "_law_draws" (defArgs (topS 28)) (defBody (topS 28)) (defScope (topS 28)) .none kV13 dc13 pm13 an13 cd13 ct13), sl13⟩)
    (c13 : PySem.W.codeIn K cd13 "_law_draws" = true)
    (k13 : PySem.W.keepIn K (.ref f13) = true)
    (a14 : PySem.W.nsIn K mainGlobals "_law_houses" = some (some (.ref f14)))
    (l14 : K.lookup f14 = some ⟨oc14, od14, .func (PySem.W.fnOf "_law_houses" "_law_houses" (defArgs (topS 29)) (defBody (topS 29)) (defScope (topS 29)) .none kV14 dc14 pm14 an14 cd14 ct14), sl14⟩)
    (c14 : PySem.W.codeIn K cd14 "_law_houses" = true)
    (k14 : PySem.W.keepIn K (.ref f14) = true)
    (a15 : PySem.W.nsIn K mainGlobals "_law_people" = some (some (.ref f15)))
    (l15 : K.lookup f15 = some ⟨oc15, od15, .func (PySem.W.fnOf "_law_people" "_law_people" (defArgs (topS 30)) (defBody (topS 30)) (defScope (topS 30)) .none kV15 dc15 pm15 an15 cd15 ct15), sl15⟩)
    (c15 : PySem.W.codeIn K cd15 "_law_people" = true)
    (k15 : PySem.W.keepIn K (.ref f15) = true)
    (a16 : PySem.W.nsIn K mainGlobals "_law_home" = some (some (.ref f16)))
    (l16 : K.lookup f16 = some ⟨oc16, od16, .func (PySem.W.fnOf "_law_home" "_law_home" (defArgs (topS 31)) (defBody (topS 31)) (defScope (topS 31)) .none kV16 dc16 pm16 an16 cd16 ct16), sl16⟩)
    (c16 : PySem.W.codeIn K cd16 "_law_home" = true)
    (k16 : PySem.W.keepIn K (.ref f16) = true)
    (a17 : PySem.W.nsIn K mainGlobals "_law_told" = some (some (.ref f17)))
    (l17 : K.lookup f17 = some ⟨oc17, od17, .func (PySem.W.fnOf "_law_told" "_law_told" (defArgs (topS 32)) (defBody (topS 32)) (defScope (topS 32)) .none kV17 dc17 pm17 an17 cd17 ct17), sl17⟩)
    (c17 : PySem.W.codeIn K cd17 "_law_told" = true)
    (k17 : PySem.W.keepIn K (.ref f17) = true)
    (a18 : PySem.W.nsIn K mainGlobals "_law_bent" = some (some (.ref f18)))
    (l18 : K.lookup f18 = some ⟨oc18, od18, .func (PySem.W.fnOf "_law_bent" "_law_bent" (defArgs (topS 33)) (defBody (topS 33)) (defScope (topS 33)) .none kV18 dc18 pm18 an18 cd18 ct18), sl18⟩)
    (c18 : PySem.W.codeIn K cd18 "_law_bent" = true)
    (k18 : PySem.W.keepIn K (.ref f18) = true)
    (a19 : PySem.W.nsIn K mainGlobals "law" = some (some (.ref f19)))
    (l19 : K.lookup f19 = some ⟨oc19, od19, .func (PySem.W.fnOf "law" "law" (defArgs (topS 34)) (defBody (topS 34)) (defScope (topS 34)) .none kV19 dc19 pm19 an19 cd19 ct19), sl19⟩)
    (c19 : PySem.W.codeIn K cd19 "law" = true)
    (k19 : PySem.W.keepIn K (.ref f19) = true)
    (z_len : PySem.W.nsIn K mainGlobals "len" = some none)
    (z_int : PySem.W.nsIn K mainGlobals "int" = some none)
    (z_str : PySem.W.nsIn K mainGlobals "str" = some none)
    (z_abs : PySem.W.nsIn K mainGlobals "abs" = some none)
    (z_max : PySem.W.nsIn K mainGlobals "max" = some none)
    (z_min : PySem.W.nsIn K mainGlobals "min" = some none)
    (z_sum : PySem.W.nsIn K mainGlobals "sum" = some none)
    (z_all : PySem.W.nsIn K mainGlobals "all" = some none)
    (z_any : PySem.W.nsIn K mainGlobals "any" = some none)
    (z_list : PySem.W.nsIn K mainGlobals "list" = some none)
    (z_tuple : PySem.W.nsIn K mainGlobals "tuple" = some none)
    (z_isinstance : PySem.W.nsIn K mainGlobals "isinstance" = some none)
    (z_ord : PySem.W.nsIn K mainGlobals "ord" = some none)
    (z_sorted : PySem.W.nsIn K mainGlobals "sorted" = some none)
    (z_set : PySem.W.nsIn K mainGlobals "set" = some none)
    (z_range : PySem.W.nsIn K mainGlobals "range" = some none)
    (z_enumerate : PySem.W.nsIn K mainGlobals "enumerate" = some none)
    (z_zip : PySem.W.nsIn K mainGlobals "zip" = some none)
    (z_bool : PySem.W.nsIn K mainGlobals "bool" = some none)
    (z_dict : PySem.W.nsIn K mainGlobals "dict" = some none)
    (ga0 : PySem.W.nsIn K mainGlobals "LETTERS" = some (some (.str c_LETTERS gt0)))
    (ga1 : PySem.W.nsIn K mainGlobals "SIGNS" = some (some (.str (c_LETTERS ++ "0123456789-") gt1)))
    (ga2 : PySem.W.nsIn K mainGlobals "MOST_HOUSE" = some (some (.int 6 gt2)))
    (ga3 : PySem.W.nsIn K mainGlobals "MOST_NAME" = some (some (.int 8 gt3)))
    (ga4 : PySem.W.nsIn K mainGlobals "AT_WISH" = some (some (.ref g4)))
    (gl4 : K.lookup g4 = some ⟨.type "tuple", gd4, .seq #[.str "lets" t4_0, .str "refuses" t4_1] gm4, gs4⟩)
    (ga5 : PySem.W.nsIn K mainGlobals "AT_NOUGHT" = some (some (.ref g5)))
    (gl5 : K.lookup g5 = some ⟨.type "tuple", gd5, .seq #[.str "bars" t5_0, .str "open" t5_1, .str "gone" t5_2] gm5, gs5⟩)
    (xa0 : PySem.W.nsIn K mainGlobals "BookError" = some (some (.ref C0)))
    (xq0 : PySem.W.excIn K C0 [.type "ValueError", .type "Exception", .type "BaseException", .type "object"] "ValueError.__new__" = true)
    (xk0 : PySem.W.keepIn K (.ref C0) = true)
    (xs0 : PySem.W.subIn K (.ref C0) (.type "BaseException") = some true)
    (xt0 : PySem.W.typeIn K (.ref C0) = some (.type "type"))
    (xg0 : PySem.W.findIn K (.ref C0) "__getattribute__" = some (some (.builtin "BaseException.__getattribute__")))
    (xh0 : PySem.W.findIn K (.ref C0) "__getattr__" = some none)
    (xd0 : PySem.W.hasDictIn K C0 = true)
    (xe0 : PySem.W.findIn K (.ref C0) "__class__" = some (some (.builtin "object.__class__")))
    (xm0 : PySem.W.mroIn K C0 (.type "object") = some true)
    (xa1 : PySem.W.nsIn K mainGlobals "NoPerson" = some (some (.ref C1)))
    (xq1 : PySem.W.excIn K C1 [.type "ValueError", .type "Exception", .type "BaseException", .type "object"] "ValueError.__new__" = true)
    (xk1 : PySem.W.keepIn K (.ref C1) = true)
    (xs1 : PySem.W.subIn K (.ref C1) (.type "BaseException") = some true)
    (xt1 : PySem.W.typeIn K (.ref C1) = some (.type "type"))
    (xg1 : PySem.W.findIn K (.ref C1) "__getattribute__" = some (some (.builtin "BaseException.__getattribute__")))
    (xh1 : PySem.W.findIn K (.ref C1) "__getattr__" = some none)
    (xd1 : PySem.W.hasDictIn K C1 = true)
    (xe1 : PySem.W.findIn K (.ref C1) "__class__" = some (some (.builtin "object.__class__")))
    (xm1 : PySem.W.mroIn K C1 (.type "object") = some true)
    (xa2 : PySem.W.nsIn K mainGlobals "NoHouse" = some (some (.ref C2)))
    (xq2 : PySem.W.excIn K C2 [.type "ValueError", .type "Exception", .type "BaseException", .type "object"] "ValueError.__new__" = true)
    (xk2 : PySem.W.keepIn K (.ref C2) = true)
    (xs2 : PySem.W.subIn K (.ref C2) (.type "BaseException") = some true)
    (xt2 : PySem.W.typeIn K (.ref C2) = some (.type "type"))
    (xg2 : PySem.W.findIn K (.ref C2) "__getattribute__" = some (some (.builtin "BaseException.__getattribute__")))
    (xh2 : PySem.W.findIn K (.ref C2) "__getattr__" = some none)
    (xd2 : PySem.W.hasDictIn K C2 = true)
    (xe2 : PySem.W.findIn K (.ref C2) "__class__" = some (some (.builtin "object.__class__")))
    (xm2 : PySem.W.mroIn K C2 (.type "object") = some true)
    (xa3 : PySem.W.nsIn K mainGlobals "NoLetter" = some (some (.ref C3)))
    (xq3 : PySem.W.excIn K C3 [.type "ValueError", .type "Exception", .type "BaseException", .type "object"] "ValueError.__new__" = true)
    (xk3 : PySem.W.keepIn K (.ref C3) = true)
    (xs3 : PySem.W.subIn K (.ref C3) (.type "BaseException") = some true)
    (xt3 : PySem.W.typeIn K (.ref C3) = some (.type "type"))
    (xg3 : PySem.W.findIn K (.ref C3) "__getattribute__" = some (some (.builtin "BaseException.__getattribute__")))
    (xh3 : PySem.W.findIn K (.ref C3) "__getattr__" = some none)
    (xd3 : PySem.W.hasDictIn K C3 = true)
    (xe3 : PySem.W.findIn K (.ref C3) "__class__" = some (some (.builtin "object.__class__")))
    (xm3 : PySem.W.mroIn K C3 (.type "object") = some true)
    (zn : PySem.W.specialIn K (.builtin "object.__class__") "__get__" = some (some (.builtin "getset_descriptor.__get__")))
    (zt : PySem.W.takesIn K (.builtin "object.__class__") = some true)
    (xp0_0 : PySem.W.subIn K (.ref C0) (.ref C0) = some true)
    (xi0_0 : PySem.W.kitOne K (.ref C0) (.ref C0) = some true)
    (xp0_1 : PySem.W.subIn K (.ref C0) (.ref C1) = some false)
    (xi0_1 : PySem.W.kitOne K (.ref C0) (.ref C1) = some false)
    (xp0_2 : PySem.W.subIn K (.ref C0) (.ref C2) = some false)
    (xi0_2 : PySem.W.kitOne K (.ref C0) (.ref C2) = some false)
    (xp0_3 : PySem.W.subIn K (.ref C0) (.ref C3) = some false)
    (xi0_3 : PySem.W.kitOne K (.ref C0) (.ref C3) = some false)
    (xp1_0 : PySem.W.subIn K (.ref C1) (.ref C0) = some true)
    (xi1_0 : PySem.W.kitOne K (.ref C1) (.ref C0) = some true)
    (xp1_1 : PySem.W.subIn K (.ref C1) (.ref C1) = some true)
    (xi1_1 : PySem.W.kitOne K (.ref C1) (.ref C1) = some true)
    (xp1_2 : PySem.W.subIn K (.ref C1) (.ref C2) = some false)
    (xi1_2 : PySem.W.kitOne K (.ref C1) (.ref C2) = some false)
    (xp1_3 : PySem.W.subIn K (.ref C1) (.ref C3) = some false)
    (xi1_3 : PySem.W.kitOne K (.ref C1) (.ref C3) = some false)
    (xp2_0 : PySem.W.subIn K (.ref C2) (.ref C0) = some true)
    (xi2_0 : PySem.W.kitOne K (.ref C2) (.ref C0) = some true)
    (xp2_1 : PySem.W.subIn K (.ref C2) (.ref C1) = some false)
    (xi2_1 : PySem.W.kitOne K (.ref C2) (.ref C1) = some false)
    (xp2_2 : PySem.W.subIn K (.ref C2) (.ref C2) = some true)
    (xi2_2 : PySem.W.kitOne K (.ref C2) (.ref C2) = some true)
    (xp2_3 : PySem.W.subIn K (.ref C2) (.ref C3) = some false)
    (xi2_3 : PySem.W.kitOne K (.ref C2) (.ref C3) = some false)
    (xp3_0 : PySem.W.subIn K (.ref C3) (.ref C0) = some true)
    (xi3_0 : PySem.W.kitOne K (.ref C3) (.ref C0) = some true)
    (xp3_1 : PySem.W.subIn K (.ref C3) (.ref C1) = some false)
    (xi3_1 : PySem.W.kitOne K (.ref C3) (.ref C1) = some false)
    (xp3_2 : PySem.W.subIn K (.ref C3) (.ref C2) = some false)
    (xi3_2 : PySem.W.kitOne K (.ref C3) (.ref C2) = some false)
    (xp3_3 : PySem.W.subIn K (.ref C3) (.ref C3) = some true)
    (xi3_3 : PySem.W.kitOne K (.ref C3) (.ref C3) = some true)
    (hlaw : ∀ ns : List Int, ns.length ≤ 63 → ∃ st, cal PG 22 19 [.scr (ns.map .int)] [] = .ok (.va (.bl true)) st) :
    ∃ fd : FuncData, (∀ (s : Shared) (v : Value), BindsTo s fd ⟨[v], []⟩ [("_law_script", v)]) ∧ ∀ base : Heap, K.In base → base.Ns mainGlobals mg → FnOk l.prog w K mg base (L2.CX l.prog w) 22 fa fd ["_law_script"] (BB.spLaw K) := by
  have e := hfa.symm.trans (PySem.W.mg_of X G a19)
  cases e
  have F0 := fun_mk (st := topS 10) l0 c0 k0
  have F1 := fun_mk (st := topS 11) l1 c1 k1
  have F2 := fun_mk (st := topS 12) l2 c2 k2
  have F3 := fun_mk (st := topS 13) l3 c3 k3
  have F4 := fun_mk (st := topS 14) l4 c4 k4
  have F5 := fun_mk (st := topS 18) l5 c5 k5
  have F6 := fun_mk (st := topS 19) l6 c6 k6
  have F7 := fun_mk (st := topS 20) l7 c7 k7
  have F8 := fun_mk (st := topS 21) l8 c8 k8
  have F9 := fun_mk (st := topS 23) l9 c9 k9
  have F10 := fun_mk (st := topS 24) l10 c10 k10
  have F11 := fun_mk (st := topS 25) l11 c11 k11
  have F12 := fun_mk (st := topS 26) l12 c12 k12
  have F13 := fun_mk (st := topS 28) l13 c13 k13
  have F14 := fun_mk (st := topS 29) l14 c14 k14
  have F15 := fun_mk (st := topS 30) l15 c15 k15
  have F16 := fun_mk (st := topS 31) l16 c16 k16
  have F17 := fun_mk (st := topS 32) l17 c17 k17
  have F18 := fun_mk (st := topS 33) l18 c18 k18
  have F19 := fun_mk (st := topS 34) l19 c19 k19
  have B0 := F0.binds (ps := p0) fun _ _ _ _ _ _ us hl => match us, hl with | [_, _, _], _ => rfl
  have B1 := F1.binds (ps := p1) fun _ _ _ _ _ _ us hl => match us, hl with | [_], _ => rfl
  have B2 := F2.binds (ps := p2) fun _ _ _ _ _ _ us hl => match us, hl with | [_], _ => rfl
  have B3 := F3.binds (ps := p3) fun _ _ _ _ _ _ us hl => match us, hl with | [_], _ => rfl
  have B4 := F4.binds (ps := p4) fun _ _ _ _ _ _ us hl => match us, hl with | [_], _ => rfl
  have B5 := F5.binds (ps := p5) fun _ _ _ _ _ _ us hl => match us, hl with | [_], _ => rfl
  have B6 := F6.binds (ps := p6) fun _ _ _ _ _ _ us hl => match us, hl with | [_], _ => rfl
  have B7 := F7.binds (ps := p7) fun _ _ _ _ _ _ us hl => match us, hl with | [_, _], _ => rfl
  have B8 := F8.binds (ps := p8) fun _ _ _ _ _ _ us hl => match us, hl with | [_], _ => rfl
  have B9 := F9.binds (ps := p9) fun _ _ _ _ _ _ us hl => match us, hl with | [_], _ => rfl
  have B10 := F10.binds (ps := p10) fun _ _ _ _ _ _ us hl => match us, hl with | [_], _ => rfl
  have B11 := F11.binds (ps := p11) fun _ _ _ _ _ _ us hl => match us, hl with | [_], _ => rfl
  have B12 := F12.binds (ps := p12) fun _ _ _ _ _ _ us hl => match us, hl with | [_], _ => rfl
  have B13 := F13.binds (ps := p13) fun _ _ _ _ _ _ us hl => match us, hl with | [_, _], _ => rfl
  have B14 := F14.binds (ps := p14) fun _ _ _ _ _ _ us hl => match us, hl with | [_, _], _ => rfl
  have B15 := F15.binds (ps := p15) fun _ _ _ _ _ _ us hl => match us, hl with | [_, _, _], _ => rfl
  have B16 := F16.binds (ps := p16) fun _ _ _ _ _ _ us hl => match us, hl with | [_], _ => rfl
  have B17 := F17.binds (ps := p17) fun _ _ _ _ _ _ us hl => match us, hl with | [_], _ => rfl
  have B18 := F18.binds (ps := p18) fun _ _ _ _ _ _ us hl => match us, hl with | [_, _], _ => rfl
  have B19 := F19.binds (ps := p19) fun _ _ _ _ _ _ us hl => match us, hl with | [_], _ => rfl
  have hm : BB.Mg0 K mg PG nm (tab f0 f1 f2 f3 f4 f5 f6 f7 f8 f9 f10 f11 f12 f13 f14 f15 f16 f17 f18 fa C0 C1 C2 C3) := ⟨fun n hn => ?_, fun b => ?_, PySem.W.mg_none_of X G z_range, PySem.W.mg_none_of X G z_enumerate, PySem.W.mg_none_of X G z_zip, fun n hn => ?_, fun n x d e => ?_, fun n x e => ?_, fun n m x y e1 e2 => ?_, rfl⟩
  have hf : ∀ n f, PG.fns[n]? = some f → BB.FnE K PG nm (tab f0 f1 f2 f3 f4 f5 f6 f7 f8 f9 f10 f11 f12 f13 f14 f15 f16 f17 f18 fa C0 C1 C2 C3) n f := fun n f e => by
    match n, e with
    | 0, e => cases e; exact ⟨_, _, topS 10, _, n0, p0, F0, s0, u0, o0, rfl, rfl, B0⟩
    | 1, e => cases e; exact ⟨_, _, topS 11, _, n1, p1, F1, s1, u1, o1, rfl, rfl, B1⟩
    | 2, e => cases e; exact ⟨_, _, topS 12, _, n2, p2, F2, s2, u2, o2, rfl, rfl, B2⟩
    | 3, e => cases e; exact ⟨_, _, topS 13, _, n3, p3, F3, s3, u3, o3, rfl, rfl, B3⟩
    | 4, e => cases e; exact ⟨_, _, topS 14, _, n4, p4, F4, s4, u4, o4, rfl, rfl, B4⟩
    | 5, e => cases e; exact ⟨_, _, topS 18, _, n5, p5, F5, s5, u5, o5, rfl, rfl, B5⟩
    | 6, e => cases e; exact ⟨_, _, topS 19, _, n6, p6, F6, s6, u6, o6, rfl, rfl, B6⟩
    | 7, e => cases e; exact ⟨_, _, topS 20, _, n7, p7, F7, s7, u7, o7, rfl, rfl, B7⟩
    | 8, e => cases e; exact ⟨_, _, topS 21, _, n8, p8, F8, s8, u8, o8, rfl, rfl, B8⟩
    | 9, e => cases e; exact ⟨_, _, topS 23, _, n9, p9, F9, s9, u9, o9, rfl, rfl, B9⟩
    | 10, e => cases e; exact ⟨_, _, topS 24, _, n10, p10, F10, s10, u10, o10, rfl, rfl, B10⟩
    | 11, e => cases e; exact ⟨_, _, topS 25, _, n11, p11, F11, s11, u11, o11, rfl, rfl, B11⟩
    | 12, e => cases e; exact ⟨_, _, topS 26, _, n12, p12, F12, s12, u12, o12, rfl, rfl, B12⟩
    | 13, e => cases e; exact ⟨_, _, topS 28, _, n13, p13, F13, s13, u13, o13, rfl, rfl, B13⟩
    | 14, e => cases e; exact ⟨_, _, topS 29, _, n14, p14, F14, s14, u14, o14, rfl, rfl, B14⟩
    | 15, e => cases e; exact ⟨_, _, topS 30, _, n15, p15, F15, s15, u15, o15, rfl, rfl, B15⟩
    | 16, e => cases e; exact ⟨_, _, topS 31, _, n16, p16, F16, s16, u16, o16, rfl, rfl, B16⟩
    | 17, e => cases e; exact ⟨_, _, topS 32, _, n17, p17, F17, s17, u17, o17, rfl, rfl, B17⟩
    | 18, e => cases e; exact ⟨_, _, topS 33, _, n18, p18, F18, s18, u18, o18, rfl, rfl, B18⟩
    | 19, e => cases e; exact ⟨_, _, topS 34, _, n19, p19, F19, s19, u19, o19, rfl, rfl, B19⟩
    | n + 20, e => cases e
  · refine ⟨PySem.W.fnOf "law" "law" (defArgs (topS 34)) (defBody (topS 34)) (defScope (topS 34)) .none kV19 dc19 pm19 an19 cd19 ct19, fun s v => .of_eq rfl, fun base _ _ => ?_⟩
    exact BB.law_ok (T := tab f0 f1 f2 f3 f4 f5 f6 f7 f8 f9 f10 f11 f12 f13 f14 f15 f16 f17 f18 fa C0 C1 C2 C3) (PG := PG) (n := 19) (BB.all_ok hm hf 22 19 _ rfl _ _ (topS 34) _ n19 p19 F19 s19 u19 o19 rfl rfl B19) ⟨_, rfl, rfl⟩ hlaw
  · match n, hn with
    | 0, _ => exact PySem.W.mg_of X G a0
    | 1, _ => exact PySem.W.mg_of X G a1
    | 2, _ => exact PySem.W.mg_of X G a2
    | 3, _ => exact PySem.W.mg_of X G a3
    | 4, _ => exact PySem.W.mg_of X G a4
    | 5, _ => exact PySem.W.mg_of X G a5
    | 6, _ => exact PySem.W.mg_of X G a6
    | 7, _ => exact PySem.W.mg_of X G a7
    | 8, _ => exact PySem.W.mg_of X G a8
    | 9, _ => exact PySem.W.mg_of X G a9
    | 10, _ => exact PySem.W.mg_of X G a10
    | 11, _ => exact PySem.W.mg_of X G a11
    | 12, _ => exact PySem.W.mg_of X G a12
    | 13, _ => exact PySem.W.mg_of X G a13
    | 14, _ => exact PySem.W.mg_of X G a14
    | 15, _ => exact PySem.W.mg_of X G a15
    | 16, _ => exact PySem.W.mg_of X G a16
    | 17, _ => exact PySem.W.mg_of X G a17
    | 18, _ => exact PySem.W.mg_of X G a18
    | 19, _ => exact PySem.W.mg_of X G a19
    | n + 20, hn => cases hn
  · cases b <;> first | exact PySem.W.mg_none_of X G z_len | exact PySem.W.mg_none_of X G z_int | exact PySem.W.mg_none_of X G z_str | exact PySem.W.mg_none_of X G z_abs | exact PySem.W.mg_none_of X G z_max | exact PySem.W.mg_none_of X G z_min | exact PySem.W.mg_none_of X G z_sum | exact PySem.W.mg_none_of X G z_all | exact PySem.W.mg_none_of X G z_any | exact PySem.W.mg_none_of X G z_list | exact PySem.W.mg_none_of X G z_tuple | exact PySem.W.mg_none_of X G z_isinstance | exact PySem.W.mg_none_of X G z_ord | exact PySem.W.mg_none_of X G z_sorted | exact PySem.W.mg_none_of X G z_set
  · unfold BB.types at hn
    simp only [List.mem_cons, List.not_mem_nil, or_false] at hn
    rcases hn with rfl | rfl | rfl | rfl | rfl | rfl
    · exact PySem.W.mg_none_of X G z_str
    · exact PySem.W.mg_none_of X G z_int
    · exact PySem.W.mg_none_of X G z_bool
    · exact PySem.W.mg_none_of X G z_tuple
    · exact PySem.W.mg_none_of X G z_list
    · exact PySem.W.mg_none_of X G z_dict
  · match n, e with
    | 0, e => cases e; exact ⟨_, .str c_LETTERS, PySem.W.mg_of X G ga0, ⟨_, rfl⟩, fun _ _ => .str _⟩
    | 1, e => cases e; exact ⟨_, .str (c_LETTERS ++ "0123456789-"), PySem.W.mg_of X G ga1, ⟨_, rfl⟩, fun _ _ => .str _⟩
    | 2, e => cases e; exact ⟨_, .int 6, PySem.W.mg_of X G ga2, ⟨_, rfl⟩, fun _ _ => .int _⟩
    | 3, e => cases e; exact ⟨_, .int 8, PySem.W.mg_of X G ga3, ⟨_, rfl⟩, fun _ _ => .int _⟩
    | 4, e => cases e; exact ⟨_, .ref g4, PySem.W.mg_of X G ga4, rfl, fun _ _ => .tup (vs := [.str "lets", .str "refuses"]) (.inr ⟨_, _, _, gl4, rfl, rfl, by show 2 ≤ sizeLine; decide, (.cons ⟨_, rfl⟩ (.cons ⟨_, rfl⟩ .nil))⟩) (.cons (.str _) (.cons (.str _) RVs.nil))⟩
    | 5, e => cases e; exact ⟨_, .ref g5, PySem.W.mg_of X G ga5, rfl, fun _ _ => .tup (vs := [.str "bars", .str "open", .str "gone"]) (.inr ⟨_, _, _, gl5, rfl, rfl, by show 3 ≤ sizeLine; decide, (.cons ⟨_, rfl⟩ (.cons ⟨_, rfl⟩ (.cons ⟨_, rfl⟩ .nil)))⟩) (.cons (.str _) (.cons (.str _) (.cons (.str _) RVs.nil)))⟩
    | n + 6, e => cases e
  · match n, e with
    | 0, e => cases e; exact ⟨PySem.W.mg_of X G xa0, xq0, xk0, xs0, xt0, xg0, xh0, xs0, xd0, xe0, zn, zt, xm0⟩
    | 1, e => cases e; exact ⟨PySem.W.mg_of X G xa1, xq1, xk1, xs1, xt1, xg1, xh1, xs1, xd1, xe1, zn, zt, xm1⟩
    | 2, e => cases e; exact ⟨PySem.W.mg_of X G xa2, xq2, xk2, xs2, xt2, xg2, xh2, xs2, xd2, xe2, zn, zt, xm2⟩
    | 3, e => cases e; exact ⟨PySem.W.mg_of X G xa3, xq3, xk3, xs3, xt3, xg3, xh3, xs3, xd3, xe3, zn, zt, xm3⟩
    | n + 4, e => cases e
  · match n, m, e1, e2 with
    | 0, 0, _, _ => exact ⟨PySem.W.exm_ref xs0 xd0 xt0 xp0_0, xi0_0⟩
    | 0, 1, _, _ => exact ⟨PySem.W.exm_ref xs1 xd1 xt1 xp0_1, xi0_1⟩
    | 0, 2, _, _ => exact ⟨PySem.W.exm_ref xs2 xd2 xt2 xp0_2, xi0_2⟩
    | 0, 3, _, _ => exact ⟨PySem.W.exm_ref xs3 xd3 xt3 xp0_3, xi0_3⟩
    | 1, 0, _, _ => exact ⟨PySem.W.exm_ref xs0 xd0 xt0 xp1_0, xi1_0⟩
    | 1, 1, _, _ => exact ⟨PySem.W.exm_ref xs1 xd1 xt1 xp1_1, xi1_1⟩
    | 1, 2, _, _ => exact ⟨PySem.W.exm_ref xs2 xd2 xt2 xp1_2, xi1_2⟩
    | 1, 3, _, _ => exact ⟨PySem.W.exm_ref xs3 xd3 xt3 xp1_3, xi1_3⟩
    | 2, 0, _, _ => exact ⟨PySem.W.exm_ref xs0 xd0 xt0 xp2_0, xi2_0⟩
    | 2, 1, _, _ => exact ⟨PySem.W.exm_ref xs1 xd1 xt1 xp2_1, xi2_1⟩
    | 2, 2, _, _ => exact ⟨PySem.W.exm_ref xs2 xd2 xt2 xp2_2, xi2_2⟩
    | 2, 3, _, _ => exact ⟨PySem.W.exm_ref xs3 xd3 xt3 xp2_3, xi2_3⟩
    | 3, 0, _, _ => exact ⟨PySem.W.exm_ref xs0 xd0 xt0 xp3_0, xi3_0⟩
    | 3, 1, _, _ => exact ⟨PySem.W.exm_ref xs1 xd1 xt1 xp3_1, xi3_1⟩
    | 3, 2, _, _ => exact ⟨PySem.W.exm_ref xs2 xd2 xt2 xp3_2, xi3_2⟩
    | 3, 3, _, _ => exact ⟨PySem.W.exm_ref xs3 xd3 xt3 xp3_3, xi3_3⟩
    | n + 4, _, e1, _ => cases e1
    | _, m + 4, _, e2 => cases e2
end L_k04_letters

namespace L_k04_letters
open PySem PySem.Spec PyProof.Rows L2 BB
theorem is_of_ok (k : Nat) (x z : Str) (m : Int) (st : Sto) (hx : x.length ≤ 16777216) : cal PG (k + 1) 0 [.str x, .int m, .str z] st = .ok (.va (.bl (isOf x m z))) st := by
  rw [cal_s rfl rfl]
  simp [b0, hx]
  rw [lc_map (fun c => D.bl (decide (c ∈ cs z)))]
  · unfold isOf
    by_cases h1 : 1 ≤ (x.length : Int) <;> by_cases h2 : (x.length : Int) ≤ m <;> simp [h1, h2, List.all_map, Function.comp_def]
  · intro c hc; simp
  · exact hx
theorem is_house_ok (k : Nat) (x : Str) (st : Sto) (hx : x.length ≤ 16777216) : cal PG (k + 2) 1 [.str x] st = .ok (.va (.bl (houseL (cs x)))) st := by
  rw [cal_s rfl rfl]
  simp [b1, is_of_ok, hx, isOf_house]
theorem is_person_ok (k : Nat) (x : Str) (st : Sto) (hx : x.length < 16777214) : cal PG (k + 3) 2 [.str x] st = .ok (.va (.bl (personL (cs x)))) st := by
  rw [cal_s rfl rfl]
  by_cases h : (cs x).count 64 = 1
  · obtain ⟨a, b, h1, h2, h3, h4⟩ := split_two h
    have h5 : (tx a).length ≤ 16777216 := by rw [len_tx]; omega
    have h6 : (tx b).length ≤ 16777216 := by rw [len_tx]; omega
    have h7 : x.length ≤ 16777214 := by omega
    have h8 : ¬ (⟨#[64]⟩ : Str).length = 0 := by decide
    simp [b2, at_lit, count_cs, h, h2, is_of_ok, is_house_ok, h5, h6, h7, h8, isOf_name, personL, h1]
    split <;> simp_all
  · have h9 : ¬ ((List.count 64 (cs x) : Nat) : Int) = 1 := by omega
    simp [b2, at_lit, count_cs, h9, personL_no h]
theorem is_person_n (k : Nat) (st : Sto) : cal PG (k + 3) 2 [.non] st = .ok (.va (.bl false)) st := by
  rw [cal_s rfl rfl]; simp [b2]
theorem is_person_i (k : Nat) (st : Sto) (i : Int) : cal PG (k + 3) 2 [.int i] st = .ok (.va (.bl false)) st := by
  rw [cal_s rfl rfl]; simp [b2]
theorem is_person_b (k : Nat) (st : Sto) (i : Bool) : cal PG (k + 3) 2 [.bl i] st = .ok (.va (.bl false)) st := by
  rw [cal_s rfl rfl]; simp [b2]
theorem is_whole_i (k : Nat) (i : Int) (st : Sto) : cal PG (k + 1) 5 [.int i] st = .ok (.va (.bl true)) st := by
  rw [cal_s rfl rfl]; simp [b5]
theorem is_whole_b (k : Nat) (i : Bool) (st : Sto) : cal PG (k + 1) 5 [.bl i] st = .ok (.va (.bl false)) st := by
  rw [cal_s rfl rfl]; simp [b5]
theorem is_whole_s (k : Nat) (i : Str) (st : Sto) : cal PG (k + 1) 5 [.str i] st = .ok (.va (.bl false)) st := by
  rw [cal_s rfl rfl]; simp [b5]
theorem is_whole_n (k : Nat) (st : Sto) : cal PG (k + 1) 5 [.non] st = .ok (.va (.bl false)) st := by
  rw [cal_s rfl rfl]; simp [b5]
theorem asks_ok (k : Nat) (n : Int) (st : Sto) : cal PG (k + 1) 6 [.int n] st = .ok (.va (.bl (decide (n % 2 = 1)))) st := by
  rw [cal_s rfl rfl]; simp [b6]
/-- at a whole number, at a text -/
def atI' (w : Str) (i : Int) : Bool :=
  if w = "lets" ∨ w = "refuses" then decide (0 < i) && decide (i % 2 = 1) else if w = "bars" ∨ w = "open" ∨ w = "gone" then decide (i = 0) else false
theorem is_at_i (k : Nat) (w : Str) (i : Int) (st : Sto) : cal PG (k + 4) 7 [.str w, .int i] st = .ok (.va (.bl (atI' w i))) st := by
  rw [cal_s rfl rfl]
  unfold atI'
  by_cases h1 : w = "lets"
  · subst h1; simp [b7, is_whole_i, asks_ok]; by_cases h : 0 < i <;> simp [h]
  by_cases h2 : w = "refuses"
  · subst h2; simp [b7, is_whole_i, asks_ok]; by_cases h : 0 < i <;> simp [h]
  by_cases h3 : w = "bars"
  · subst h3; simp [b7, is_whole_i, asks_ok]
  by_cases h4 : w = "open"
  · subst h4; simp [b7, is_whole_i, asks_ok]
  by_cases h5 : w = "gone"
  · subst h5; simp [b7, is_whole_i, asks_ok]
  by_cases h6 : w = "moved"
  · subst h6; simp [b7, is_whole_i, asks_ok, is_person_i]
  · simp [b7, is_whole_i, asks_ok, is_person_i, h1, h2, h3, h4, h5, h6]
theorem is_at_o (k : Nat) (w : Str) (d : D) (hd : d = .non ∨ ∃ b, d = .bl b) (st : Sto) : cal PG (k + 4) 7 [.str w, d] st = .ok (.va (.bl false)) st := by
  rw [cal_s rfl rfl]
  by_cases h1 : w = "lets" ∨ w = "refuses"
  · rcases hd with rfl | ⟨b, rfl⟩ <;> simp [b7, is_whole_b, is_whole_n, h1]
  by_cases h3 : w = "bars" ∨ w = "open" ∨ w = "gone"
  · rcases hd with rfl | ⟨b, rfl⟩ <;> simp [b7, is_whole_b, is_whole_n, h1, h3]
  by_cases h6 : w = "moved"
  · subst h6; rcases hd with rfl | ⟨b, rfl⟩ <;> simp [b7, is_person_n, is_person_b]
  · rcases hd with rfl | ⟨b, rfl⟩ <;> simp [b7, h1, h3, h6]
theorem is_at_s (k : Nat) (w : Str) (x : Str) (hx : x.length < 16777214) (st : Sto) : cal PG (k + 4) 7 [.str w, .str x] st = .ok (.va (.bl (decide (w = "moved") && personL (cs x)))) st := by
  rw [cal_s rfl rfl]
  by_cases h1 : w = "lets" ∨ w = "refuses"
  · rcases h1 with rfl | rfl <;> simp [b7, is_whole_s]
  by_cases h3 : w = "bars" ∨ w = "open" ∨ w = "gone"
  · rcases h3 with rfl | rfl | rfl <;> simp [b7, is_whole_s]
  by_cases h6 : w = "moved"
  · subst h6; simp [b7, is_person_ok, hx]
  · simp [b7, h1, h3, h6]
def ansI (n : Int) (w : Str) (i : Int) : Bool := if n = 0 then decide (w = "none") && decide (i = 0) else decide (1 + (if w = "open" then 1 else 0) ≤ n) && atI' w i
def ansS (n : Int) (w : Str) (x : Str) : Bool := if n = 0 then false else decide (1 + (if w = "open" then 1 else 0) ≤ n) && (decide (w = "moved") && personL (cs x))
theorem ans_i (k : Nat) (n : Int) (w : Str) (i : Int) (st : Sto) : cal PG (k + 5) 8 [.tup [.int n, .str w, .int i]] st = .ok (.va (.bl (ansI n w i))) st := by
  rw [cal_s rfl rfl]
  unfold ansI
  by_cases h : n = 0
  · subst h; simp [b8, is_whole_i]; by_cases h2 : w = "none" <;> simp [h2]
  · by_cases h2 : w = "open"
    · subst h2
      by_cases h3 : 2 ≤ n <;> simp [b8, is_whole_i, is_at_i, h, h3]
    · by_cases h3 : 1 ≤ n <;> simp [b8, is_whole_i, is_at_i, h, h2, h3]
theorem ans_s (k : Nat) (n : Int) (w : Str) (x : Str) (hx : x.length < 16777214) (st : Sto) : cal PG (k + 5) 8 [.tup [.int n, .str w, .str x]] st = .ok (.va (.bl (ansS n w x))) st := by
  rw [cal_s rfl rfl]
  unfold ansS
  by_cases h : n = 0
  · subst h; simp [b8, is_whole_i, is_whole_s]
  · by_cases h2 : w = "open"
    · subst h2
      by_cases h3 : 2 ≤ n <;> simp [b8, is_whole_i, is_at_s, h, h3, hx]
    · by_cases h3 : 1 ≤ n <;> simp [b8, is_whole_i, is_at_s, h, h2, h3, hx]
theorem ans_o (k : Nat) (n : Int) (w : Str) (d : D) (hd : d = .non ∨ ∃ b, d = .bl b) (st : Sto) : cal PG (k + 5) 8 [.tup [.int n, .str w, d]] st = .ok (.va (.bl false)) st := by
  rw [cal_s rfl rfl]
  have ia := is_at_o k w d hd
  by_cases h : n = 0
  · rcases hd with rfl | ⟨b, rfl⟩ <;> simp [b8, is_whole_i, is_whole_b, is_whole_n, h]
  · by_cases h2 : w = "open"
    · subst h2
      by_cases h3 : 2 ≤ n <;> rcases hd with rfl | ⟨b, rfl⟩ <;> simp_all [b8, is_whole_i]
    · by_cases h3 : 1 ≤ n <;> rcases hd with rfl | ⟨b, rfl⟩ <;> simp [b8, is_whole_i, ia, h, h2, h3]
/-- the draws -/
def DrawS (c n : Int) (st : Sto) (m : Nat) (s : S) : Prop := ∃ (xs : List Int) (low other rest : Int) (e6 e7 : Slot), xs.length = m ∧ (∀ x ∈ xs, 0 ≤ x ∧ x < 720) ∧ 0 ≤ low ∧ low < 2147483648 ∧ 0 ≤ other ∧ other < 2147485000 ∧
  s = ⟨[.va (.int c), .va (.int n), .ol (xs.map .int), .va (.int low), .va (.int other), .va (.int rest), e6, e7], st⟩
theorem draws_turn (k : Nat) (c n : Int) (st : Sto) (m : Nat) (s : S) (hm : m < 1000) (h : DrawS c n st m s) : ∃ s', forN PG (cal PG k) 6 b13_0 (.int m) s = .nx s' ∧ DrawS c n st (m + 1) s' := by
  obtain ⟨xs, low, other, rest, e6, e7, hl, hx, h1, h2, h3, h4, rfl⟩ := h
  have hl2 : xs.length < 16777216 := by omega
  simp [b13_0, app2_s, hl2]
  split
  all_goals
    refine ⟨_, rfl, xs ++ [_], _, _, _, _, _, by rw [List.length_append, hl]; rfl, fun y hy => ?_, ?_, ?_, ?_, ?_, by rw [List.map_append]; rfl⟩
    · rcases List.mem_append.mp hy with hy | hy
      · exact hx y hy
      · cases List.mem_singleton.mp hy; omega
    all_goals omega
theorem draws_ok (k : Nat) (c n : Int) (hn : 0 ≤ n) (hn2 : n < 1000) (st : Sto) :
    ∃ xs : List Int, (xs.length : Int) = n ∧ (∀ x ∈ xs, 0 ≤ x ∧ x < 720) ∧ cal PG (k + 1) 13 [.int c, .int n] st = .ok (.fl (xs.map .int)) st := by
  rw [cal_s rfl rfl]
  have a1 : -4611686018427387904 ≤ n := by omega
  have a2 : n < 4611686018427387904 := by omega
  have a3 : ∀ i : Int, 0 ≤ (if i < 0 then -i else i) := fun i => by split <;> omega
  obtain ⟨q, hq⟩ : ∃ q : Int, q = if 1000000000000000000 ≤ c then 1 else 0 := ⟨_, rfl⟩
  have q1 : -18446744073709551616 < q := by rw [hq]; split <;> omega
  have q2 : q < 18446744073709551616 := by rw [hq]; split <;> omega
  simp [b13, a1, a2, ← hq, q1, q2]
  obtain ⟨s', e, xs, low, other, rest, e6, e7, hl, hx, h1, h2, h3, h4, rfl⟩ := for_rng (b := forN PG (cal PG k) 6 b13_0) (DrawS c n st) n.toNat ⟨[.va (.int c), .va (.int n), .ol [], .va (.int ((if c < 0 then -c else c) % 2147483647 + 1)), .va (.int ((if c < 0 then -c else c) % 2147483629 + 7)), .va (.int (c * q)), .no, .no], st⟩
    ⟨[], _, _, _, .no, .no, rfl, (fun _ h => by cases h), by omega, by omega, by omega, by omega, rfl⟩ (fun i s hi p => (draws_turn k c n st i s (by omega) p).imp fun s' h => ⟨.inl h.1, h.2⟩)
  rw [e]
  exact ⟨xs, by omega, hx, by simp⟩
theorem check_ok (K : Nat) (p : Str) (h : personL (cs p) = true) (hl : p.length < 16777214) (st : Sto) : cal PG (K + 4) 3 [.str p] st = .ok (.va .non) st := by
  rw [cal_s rfl rfl]; simp [b3, is_person_ok, hl, h]
theorem check_no (K : Nat) (p : Str) (h : personL (cs p) = false) (hl : p.length < 16777214) (st : Sto) : cal PG (K + 4) 3 [.str p] st = .ex 1 [] st := by
  rw [cal_s rfl rfl]; simp [b3, is_person_ok, hl, h]
end L_k04_letters

namespace L_k04_letters
open PySem PySem.Spec PyProof.Rows L2 BB
theorem ends_no (K : Nat) (d : D) (st : Sto) (h : cal PG (K + 6) 9 [d] st = .ok (.va (.bl false)) st) : cal PG (K + 7) 10 [d] st = .ex 3 [] st := by
  rw [cal_s rfl rfl]; simp [b10, h]
theorem from_no (K : Nat) (d : D) (st : Sto) (h : cal PG (K + 6) 9 [d] st = .ok (.va (.bl false)) st) : cal PG (K + 8) 11 [d] st = .ex 3 [] st := by
  rw [cal_s rfl rfl]; simp [b11, ends_no K d st h]
theorem to_no (K : Nat) (d : D) (st : Sto) (h : cal PG (K + 6) 9 [d] st = .ok (.va (.bl false)) st) : cal PG (K + 8) 12 [d] st = .ex 3 [] st := by
  rw [cal_s rfl rfl]; simp [b12, ends_no K d st h]
theorem told_no (K : Nat) (d : D) (st : Sto) (h : cal PG (K + 6) 9 [d] st = .ok (.va (.bl false)) st) : cal PG (K + 9) 17 [d] st = .ok (.fl [.bl true, .bl true]) st := by
  have c0 : (PG.fns[11]?).isSome = true := rfl
  have c1 : (PG.fns[12]?).isSome = true := rfl
  have k1 : (PG.cls[3]?).isSome = true := rfl
  have s1 : PG.sub 3 0 = true := rfl
  have s2 : PG.sub 3 3 = true := rfl
  have s3 : PG.sub 3 2 = false := rfl
  rw [cal_s rfl rfl]
  simp [b17, b17_0, forTurns_cons, from_no K d st h, to_no K d st h, c0, c1, k1, s1, s2, s3, app2_s]
end L_k04_letters

namespace L_k04_letters
open PySem PySem.Spec PyProof.Rows L2 BB
theorem rep_house {x : Str} {j c : Nat} (hx : cs x = List.replicate j c) (h1 : 1 ≤ j) (h2 : j ≤ 6) (hc : c ∈ LET) : houseL (cs x) = true := by
  unfold houseL
  rw [hx]
  simp [h1, h2, hc]
theorem houses_ex (x : Int) (h0 : 0 ≤ x) (h1 : x < 720) : ∃ a b : Str, houseL (cs a) = true ∧ houseL (cs b) = true ∧ a ≠ b ∧ ∀ K st, cal PG (K + 1) 14 [.int x, .int 2] st = .ok (.fl [.str a, .str b]) st := by
  obtain ⟨c, hc, e1⟩ := atI_mem LET (x % 26) (by omega) (by show _ < (26 : Int); omega)
  obtain ⟨d, hd, e2⟩ := atI_mem LET ((x + 7) % 26) (by omega) (by show _ < (26 : Int); omega)
  have m1 : cs (Txt.mul ⟨#[c]⟩ (1 + x / 26 % 6)) = List.replicate (1 + x / 26 % 6).toNat c := mul_one_list c _
  have m2 : cs (Txt.mul ⟨#[d]⟩ (1 + (x / 26 + 1) % 6)) = List.replicate (1 + (x / 26 + 1) % 6).toNat d := mul_one_list d _
  have ne : c ≠ d := by
    have f : ∀ i : Nat, i < 26 → LET[i]? = some (97 + i) := by decide
    rw [atI_of (by omega) (by show _ < (26 : Int); omega), f _ (by omega)] at e1 e2
    injection e1 with e1
    injection e2 with e2
    omega
  refine ⟨_, _, rep_house m1 (by omega) (by omega) hc, rep_house m2 (by omega) (by omega) hd, fun e => ?_, fun K st => ?_⟩
  · have e3 := congrArg cs e
    rw [m1, m2] at e3
    have e4 := congrArg List.head? e3
    rw [List.head?_replicate, List.head?_replicate, if_neg (by omega), if_neg (by omega)] at e4
    injection e4 with e4
    exact ne e4
  · have g0 : 0 ≤ 1 + x / 26 % 6 ∧ 1 + x / 26 % 6 ≤ 16777216 := by omega
    have g1 : 0 ≤ 1 + (x / 26 + 1) % 6 ∧ 1 + (x / 26 + 1) % 6 ≤ 16777216 := by omega
    have g2 : (⟨#[c]⟩ : Str).length * (1 + x / 26 % 6).toNat ≤ 16777216 := by show 1 * _ ≤ _; omega
    have g3 : (⟨#[d]⟩ : Str).length * (1 + (x / 26 + 1) % 6).toNat ≤ 16777216 := by show 1 * _ ≤ _; omega
    have g4 : (Str.ofString "abcdefghijklmnopqrstuvwxyz").length ≤ 16777216 := by decide +kernel
    rw [cal_s rfl rfl]
    simp [b14, rngD, lcTurns_cons, let_lit, e1, e2, g0, g1, g2, g3, g4]
/-- a person of a house -/
def PersonOf (p h : Str) : Prop := ∃ a, cs p = a ++ 64 :: cs h ∧ nameL a = true ∧ houseL (cs h) = true
theorem name_sig {a : List Nat} (h : nameL a = true) : 1 ≤ a.length ∧ a.length ≤ 8 ∧ ∀ s ∈ a, s ∈ SIG := by
  unfold nameL at h
  simp at h
  exact ⟨h.1.1, h.1.2, h.2⟩
theorem house_let {a : List Nat} (h : houseL a = true) : 1 ≤ a.length ∧ a.length ≤ 6 ∧ ∀ s ∈ a, s ∈ LET := by
  unfold houseL at h
  simp at h
  exact ⟨h.1.1, h.1.2, h.2⟩
theorem sig_no : ∀ s ∈ SIG, s ≠ 64 ∧ s ≠ 32 ∧ s ≠ 10 := by decide
theorem let_sig : ∀ s ∈ LET, s ∈ SIG := by decide
theorem PersonOf.split {p h : Str} (q : PersonOf p h) : ∃ a, splitL 64 (cs p) = [a, cs h] ∧ nameL a = true ∧ houseL (cs h) = true := by
  obtain ⟨a, e, n, g⟩ := q
  have n1 : 64 ∉ a := fun m => (sig_no 64 ((name_sig n).2.2 64 m)).1 rfl
  have n2 : 64 ∉ cs h := fun m => (sig_no 64 (let_sig 64 ((house_let g).2.2 64 m))).1 rfl
  exact ⟨a, by rw [e, splitL_app 64 _ _ n1, splitL_free 64 _ n2], n, g⟩
theorem PersonOf.person {p h : Str} (q : PersonOf p h) : personL (cs p) = true := by
  obtain ⟨a, e, n, g⟩ := q.split
  unfold personL
  rw [e]
  simp [n, g]
theorem PersonOf.len {p h : Str} (q : PersonOf p h) : p.length ≤ 15 ∧ 3 ≤ p.length := by
  obtain ⟨a, e, n, g⟩ := q
  have h1 := name_sig n
  have h2 := house_let g
  have h3 : p.length = (cs p).length := rfl
  rw [h3, e, List.length_append, List.length_cons]
  omega
theorem PersonOf.free {p h : Str} (q : PersonOf p h) (c : Nat) (hc : c = 32 ∨ c = 10) : c ∉ cs p := by
  obtain ⟨a, e, n, g⟩ := q
  rw [e]
  intro m
  rcases List.mem_append.mp m with m | m
  · have := sig_no c ((name_sig n).2.2 c m); omega
  · rcases List.mem_cons.mp m with m | m
    · omega
    · have := sig_no c (let_sig c ((house_let g).2.2 c m)); omega
theorem PersonOf.ne {p q x y : Str} (h : PersonOf p x) (g : PersonOf q y) (n : x ≠ y) : p ≠ q := fun e => by
  subst e
  obtain ⟨a, e1, _, _⟩ := h.split
  obtain ⟨b, e2, _, _⟩ := g.split
  rw [e1] at e2
  injection e2 with _ e2
  injection e2 with e2 _
  exact n (cs_inj e2)
theorem house_of_ok (K : Nat) (p h : Str) (q : PersonOf p h) (st : Sto) : cal PG (K + 5) 4 [.str p] st = .ok (.va (.str h)) st := by
  obtain ⟨a, e, _, _⟩ := q.split
  have hl : p.length < 16777214 := by have := q.len; omega
  have hl2 : p.length ≤ 16777214 := by omega
  have h8 : ¬ (⟨#[64]⟩ : Str).length = 0 := by decide
  have es : Txt.split p ⟨#[64]⟩ = [tx a, h] := by rw [split_eq, e]; simp
  rw [cal_s rfl rfl]
  simp [b4, check_ok, q.person, hl, hl2, at_lit, h8, es]
theorem people_ex (h : Str) (hh : houseL (cs h) = true) (y0 y1 y2 y3 y4 : Int) (r : List D) (b0 : 0 ≤ y4) (b1 : y4 < 720) : ∃ p, PersonOf p h ∧ ∀ K st, cal PG (K + 1) 15 [.lst [.str h], .lst (.int y0 :: .int y1 :: .int y2 :: .int y3 :: .int y4 :: r), .int 1] st = .ok (.fl [.str p]) st := by
  have sl : cs (Str.ofString "abcdefghijklmnopqrstuvwxyz0123456789-") = SIG := by decide +kernel
  have sl2 : (Str.ofString "abcdefghijklmnopqrstuvwxyz0123456789-").length ≤ 16777216 := by decide +kernel
  have l1 : (Str.ofString "@").length = 1 := by decide +kernel
  have l0 : (Str.ofString "").length = 0 := by decide +kernel
  have c0 : cs (Str.ofString "") = [] := by decide +kernel
  have lh := house_let hh
  have eh : h.length = (cs h).length := rfl
  obtain ⟨c, hc, e1⟩ := atI_mem SIG (y4 % 37) (by omega) (by show _ < (37 : Int); omega)
  have mk : ∀ (n : Str) (j : Nat), cs n = List.replicate j c → 1 ≤ j → j ≤ 8 → PersonOf (n ++ Str.ofString "@" ++ h) h := fun n j e j1 j2 => by
    refine ⟨List.replicate j c, ?_, ?_, hh⟩
    · rw [cs_app, cs_app, e, at_lit]
      show _ ++ [64] ++ _ = _
      simp
    · unfold nameL
      simp [j1, j2, hc]
  have m1 : cs (Txt.mul ⟨#[c]⟩ (1 + y4 / 37 % 8)) = List.replicate (1 + y4 / 37 % 8).toNat c := mul_one_list c _
  have m2 : cs (Txt.mul ⟨#[c]⟩ (1 + y4 / 37 % 7) ++ Str.ofString "") = List.replicate (1 + y4 / 37 % 7).toNat c := by rw [cs_app, c0, List.append_nil]; exact mul_one_list c _
  have g0 : 0 ≤ 1 + y4 / 37 % 8 ∧ 1 + y4 / 37 % 8 ≤ 16777216 := by omega
  have g1 : 0 ≤ 1 + y4 / 37 % 7 ∧ 1 + y4 / 37 % 7 ≤ 16777216 := by omega
  have g2 : (⟨#[c]⟩ : Str).length * (1 + y4 / 37 % 8).toNat ≤ 16777216 := by show 1 * _ ≤ _; omega
  have g3 : (⟨#[c]⟩ : Str).length * (1 + y4 / 37 % 7).toNat ≤ 16777216 := by show 1 * _ ≤ _; omega
  have n1 : (Txt.mul ⟨#[c]⟩ (1 + y4 / 37 % 8)).length = (1 + y4 / 37 % 8).toNat := by show (cs _).length = _; rw [m1, List.length_replicate]
  have n2 : (Txt.mul ⟨#[c]⟩ (1 + y4 / 37 % 7)).length = (1 + y4 / 37 % 7).toNat := by show (cs _).length = _; rw [mul_one_list c _ |> fun e => (show cs _ = _ from e), List.length_replicate]
  by_cases odd : y4 / 296 % 2 = 1
  · refine ⟨_, mk _ _ m2 (by omega) (by omega), fun K st => ?_⟩
    rw [cal_s rfl rfl]
    simp [b15, b15_0, b15_1, enumD, rngD, forTurns_cons, app2_s, sl, sl2, e1, g0, g1, g2, g3, n1, n2, odd, l0, l1, len_app]
    repeat rw [if_pos (by omega)]
  · refine ⟨_, mk _ _ m1 (by omega) (by omega), fun K st => ?_⟩
    rw [cal_s rfl rfl]
    simp [b15, b15_0, b15_1, enumD, rngD, forTurns_cons, app2_s, sl, sl2, e1, g0, g1, g2, g3, n1, n2, odd, l0, l1, len_app]
    repeat rw [if_pos (by omega)]
end L_k04_letters

namespace L_k04_letters
open PySem PySem.Spec PyProof.Rows L2 BB
section
variable {p q x y : Str} (hp : PersonOf p x) (hq : PersonOf q y) (hn : x ≠ y)
include hp hq hn
theorem is_letter_w (K : Nat) (n : Int) (h : 0 < n) (st : Sto) : cal PG (K + 6) 9 [.tup [.str (Str.ofString "wish"), .str p, .str q, .int n]] st = .ok (.va (.bl true)) st := by
  have l1 : p.length < 16777214 := by have := hp.len; omega
  have l2 : q.length < 16777214 := by have := hq.len; omega
  rw [cal_s rfl rfl]
  simp [b9, is_person_ok, l1, l2, hp.person, hq.person, house_of_ok _ _ _ hp, house_of_ok _ _ _ hq, hn, is_whole_i, h]
theorem is_letter_a (K : Nat) (n : Int) (h : 0 < n) (w : Str) (a : D) (st : Sto) (hA : cal PG (K + 5) 8 [.tup [.int n, .str w, a]] st = .ok (.va (.bl true)) st) :
    cal PG (K + 6) 9 [.tup [.str (Str.ofString "answer"), .str p, .str q, .int n, .str w, a]] st = .ok (.va (.bl true)) st := by
  have l1 : p.length < 16777214 := by have := hp.len; omega
  have l2 : q.length < 16777214 := by have := hq.len; omega
  rw [cal_s rfl rfl]
  simp [b9, is_person_ok, l1, l2, hp.person, hq.person, house_of_ok _ _ _ hp, house_of_ok _ _ _ hq, hn, is_whole_i, h, hA]
end
theorem told_w {p q x y : Str} (hp : PersonOf p x) (hq : PersonOf q y) (K : Nat) (r : List D) (st : Sto) (h : cal PG (K + 6) 9 [.tup (.str (Str.ofString "wish") :: .str p :: .str q :: r)] st = .ok (.va (.bl true)) st) :
    cal PG (K + 9) 17 [.tup (.str (Str.ofString "wish") :: .str p :: .str q :: r)] st = .ok (.fl [.str x, .str y]) st := by
  have c0 : (PG.fns[11]?).isSome = true := rfl
  have c1 : (PG.fns[12]?).isSome = true := rfl
  have e : cal PG (K + 7) 10 [.tup (.str (Str.ofString "wish") :: .str p :: .str q :: r)] st = .ok (.va (.tup [.str x, .str y])) st := by
    rw [cal_s rfl rfl]; simp [b10, h, house_of_ok _ _ _ hp, house_of_ok _ _ _ hq]
  have f : cal PG (K + 8) 11 [.tup (.str (Str.ofString "wish") :: .str p :: .str q :: r)] st = .ok (.va (.str x)) st := by rw [cal_s rfl rfl]; simp [b11, e]
  have g : cal PG (K + 8) 12 [.tup (.str (Str.ofString "wish") :: .str p :: .str q :: r)] st = .ok (.va (.str y)) st := by rw [cal_s rfl rfl]; simp [b12, e]
  rw [cal_s rfl rfl]
  simp [b17, b17_0, forTurns_cons, f, g, c0, c1, app2_s]
theorem told_a {p q x y : Str} (hp : PersonOf p x) (hq : PersonOf q y) (K : Nat) (r : List D) (st : Sto) (h : cal PG (K + 6) 9 [.tup (.str (Str.ofString "answer") :: .str p :: .str q :: r)] st = .ok (.va (.bl true)) st) :
    cal PG (K + 9) 17 [.tup (.str (Str.ofString "answer") :: .str p :: .str q :: r)] st = .ok (.fl [.str y, .str x]) st := by
  have c0 : (PG.fns[11]?).isSome = true := rfl
  have c1 : (PG.fns[12]?).isSome = true := rfl
  have e : cal PG (K + 7) 10 [.tup (.str (Str.ofString "answer") :: .str p :: .str q :: r)] st = .ok (.va (.tup [.str y, .str x])) st := by
    rw [cal_s rfl rfl]; simp [b10, h, house_of_ok _ _ _ hp, house_of_ok _ _ _ hq]
  have f : cal PG (K + 8) 11 [.tup (.str (Str.ofString "answer") :: .str p :: .str q :: r)] st = .ok (.va (.str y)) st := by rw [cal_s rfl rfl]; simp [b11, e]
  have g : cal PG (K + 8) 12 [.tup (.str (Str.ofString "answer") :: .str p :: .str q :: r)] st = .ok (.va (.str x)) st := by rw [cal_s rfl rfl]; simp [b12, e]
  rw [cal_s rfl rfl]
  simp [b17, b17_0, forTurns_cons, f, g, c0, c1, app2_s]
end L_k04_letters

namespace L_k04_letters
open PySem PySem.Spec PyProof.Rows L2 BB
theorem home_ok (K : Nat) (p h : Str) (q : PersonOf p h) (st : Sto) : cal PG (K + 1) 16 [.str p] st = .ok (.va (.str h)) st := by
  have hl := q.len
  obtain ⟨a, e, n, g⟩ := q
  have n1 : 64 ∉ a := fun m => (sig_no 64 ((name_sig n).2.2 64 m)).1 rfl
  have hi := index_sign e n1
  have hc : cutS p (some ((a.length : Int) + 1)) none = h := by
    apply cs_inj
    have := cutS_from p (a.length + 1)
    rw [show ((a.length + 1 : Nat) : Int) = (a.length : Int) + 1 by omega] at this
    rw [this, e]
    simp
  have h2 : p.length ≤ 16777216 := by omega
  rw [cal_s rfl rfl]
  simp [b16, at_lit, hi, h2, hc]
end L_k04_letters

namespace L_k04_letters
open PySem PySem.Spec PyProof.Rows L2 BB
/-- no letter -/
def NoL (st : Sto) (d : D) : Prop := ∀ K, cal PG (K + 6) 9 [d] st = .ok (.va (.bl false)) st
theorem nl_len (l : List D) (h : ¬ (l.length = 4 ∨ l.length = 6)) (st : Sto) : NoL st (.tup l) := fun K => by
  have h4 : ¬ (l.length : Int) = 4 := by omega
  have h6 : ¬ (l.length : Int) = 6 := by omega
  rw [cal_s rfl rfl]; simp [b9, h4, h6]
theorem nl_kind (d : D) (h : d = .non ∨ (∃ x, d = .str x) ∨ ∃ l, d = .lst l) (st : Sto) : NoL st d := fun K => by
  rw [cal_s rfl rfl]
  rcases h with rfl | ⟨x, rfl⟩ | ⟨l, rfl⟩ <;> simp [b9]
theorem nl_none (a b c : D) (r : List D) (h : r.length = 0 ∨ r.length = 2) (st : Sto) : NoL st (.tup (.non :: a :: b :: c :: r)) := fun K => by
  rw [cal_s rfl rfl]
  rcases r with _ | ⟨x, _ | ⟨y, _ | ⟨z, r⟩⟩⟩
  · simp [b9]
  · simp at h
  · simp [b9]
  · simp at h
section
variable {p q x : Str} (hp : PersonOf p x) (hq : PersonOf q x)
include hp hq
theorem nl_same (t : Str) (c : D) (r : List D) (h : r.length = 0 ∨ r.length = 2) (st : Sto) : NoL st (.tup (.str t :: .str p :: .str q :: c :: r)) := fun K => by
  have l1 : p.length < 16777214 := by have := hp.len; omega
  have l2 : q.length < 16777214 := by have := hq.len; omega
  rw [cal_s rfl rfl]
  rcases r with _ | ⟨x, _ | ⟨y, _ | ⟨z, r⟩⟩⟩
  · simp [b9, is_person_ok, l1, l2, hp.person, hq.person, house_of_ok _ _ _ hp, house_of_ok _ _ _ hq]
  · simp at h
  · simp [b9, is_person_ok, l1, l2, hp.person, hq.person, house_of_ok _ _ _ hp, house_of_ok _ _ _ hq]
  · simp at h
end
theorem nl_p1 (t z : Str) (b c : D) (r : List D) (h : r.length = 0 ∨ r.length = 2) (hz : personL (cs z) = false) (hl : z.length < 16777214) (st : Sto) : NoL st (.tup (.str t :: .str z :: b :: c :: r)) := fun K => by
  rw [cal_s rfl rfl]
  rcases r with _ | ⟨x, _ | ⟨y, _ | ⟨w, r⟩⟩⟩
  · simp [b9, is_person_ok, hl, hz]
  · simp at h
  · simp [b9, is_person_ok, hl, hz]
  · simp at h
theorem nl_p2 {p x : Str} (hp : PersonOf p x) (t : Str) (c : D) (r : List D) (h : r.length = 0 ∨ r.length = 2) (st : Sto) : NoL st (.tup (.str t :: .str p :: .non :: c :: r)) := fun K => by
  have l1 : p.length < 16777214 := by have := hp.len; omega
  rw [cal_s rfl rfl]
  rcases r with _ | ⟨x, _ | ⟨y, _ | ⟨w, r⟩⟩⟩
  · simp [b9, is_person_ok, l1, hp.person, is_person_n]
  · simp at h
  · simp [b9, is_person_ok, l1, hp.person, is_person_n]
  · simp at h
section
variable {p q x y : Str} (hp : PersonOf p x) (hq : PersonOf q y) (hn : x ≠ y)
include hp hq hn
theorem nl_w4 (t : Str) (ht : t ≠ Str.ofString "wish") (c : D) (st : Sto) : NoL st (.tup [.str t, .str p, .str q, c]) := fun K => by
  have l1 : p.length < 16777214 := by have := hp.len; omega
  have l2 : q.length < 16777214 := by have := hq.len; omega
  rw [cal_s rfl rfl]
  simp [b9, is_person_ok, l1, l2, hp.person, hq.person, house_of_ok _ _ _ hp, house_of_ok _ _ _ hq, hn, ht]
theorem nl_w6 (t : Str) (ht : t ≠ Str.ofString "answer") (c w a : D) (st : Sto) : NoL st (.tup [.str t, .str p, .str q, c, w, a]) := fun K => by
  have l1 : p.length < 16777214 := by have := hp.len; omega
  have l2 : q.length < 16777214 := by have := hq.len; omega
  rw [cal_s rfl rfl]
  simp [b9, is_person_ok, l1, l2, hp.person, hq.person, house_of_ok _ _ _ hp, house_of_ok _ _ _ hq, hn, ht]
theorem nl_num (n : Int) (h : n ≤ 0) (st : Sto) : NoL st (.tup [.str (Str.ofString "wish"), .str p, .str q, .int n]) := fun K => by
  have l1 : p.length < 16777214 := by have := hp.len; omega
  have l2 : q.length < 16777214 := by have := hq.len; omega
  have h2 : ¬ 0 < n := by omega
  rw [cal_s rfl rfl]
  simp [b9, is_person_ok, l1, l2, hp.person, hq.person, house_of_ok _ _ _ hp, house_of_ok _ _ _ hq, hn, is_whole_i, h2]
theorem nl_bool (b : Bool) (st : Sto) : NoL st (.tup [.str (Str.ofString "wish"), .str p, .str q, .bl b]) := fun K => by
  have l1 : p.length < 16777214 := by have := hp.len; omega
  have l2 : q.length < 16777214 := by have := hq.len; omega
  rw [cal_s rfl rfl]
  simp [b9, is_person_ok, l1, l2, hp.person, hq.person, house_of_ok _ _ _ hp, house_of_ok _ _ _ hq, hn, is_whole_b]
theorem nl_ans (c w a : D) (st : Sto) (hA : ∀ K, cal PG (K + 5) 8 [.tup [c, w, a]] st = .ok (.va (.bl false)) st) : NoL st (.tup [.str (Str.ofString "answer"), .str p, .str q, c, w, a]) := fun K => by
  have l1 : p.length < 16777214 := by have := hp.len; omega
  have l2 : q.length < 16777214 := by have := hq.len; omega
  rw [cal_s rfl rfl]
  simp [b9, is_person_ok, l1, l2, hp.person, hq.person, house_of_ok _ _ _ hp, house_of_ok _ _ _ hq, hn, hA K]
end
end L_k04_letters

namespace L_k04_letters
open PySem PySem.Spec PyProof.Rows L2 BB
theorem bent_w {p q x y : Str} (hp : PersonOf p x) (hq : PersonOf q y) (hn : x ≠ y) (n : Int) (h : 0 < n) (xs : List D) (x12 x13 : Int) (e12 : xs[12]? = some (.int x12)) (e13 : xs[13]? = some (.int x13)) (st : Sto) (K : Nat) :
    ∃ d, cal PG (K + 2) 18 [.tup [.str (Str.ofString "wish"), .str p, .str q, .int n], .lst xs] st = .ok (.va d) st ∧ NoL st d := by
  have lx := hp.len
  have ly := hq.len
  have hz : (Str.ofString "zz9@").length = 4 := by decide +kernel
  have hh : x.length ≤ 6 := by
    obtain ⟨a, e, _, g⟩ := hp
    exact (house_let g).2.1
  have g1 : (Str.ofString "zz9@").length + x.length ≤ 16777216 := by omega
  have g2 : (Str.ofString "wish").length + (Str.ofString "s").length ≤ 16777216 := by decide +kernel
  have near : PersonOf (Str.ofString "zz9@" ++ x) x := by
    obtain ⟨a, e, _, g⟩ := hp
    exact ⟨[122, 122, 57], by rw [cs_app, show cs (Str.ofString "zz9@") = [122, 122, 57, 64] by decide +kernel]; rfl, by decide, g⟩
  have hc : BB.cutD [D.str (Str.ofString "wish"), D.str p, D.str q, D.int n] none (some (-1)) = [D.str (Str.ofString "wish"), D.str p, D.str q] := rfl
  obtain ⟨d, hd, e⟩ := atI_mem (α := D) [.tup [.str (Str.ofString "wish"), .str p, .str (Str.ofString "zz9@" ++ x), .int n], .tup [.str (Str.ofString "wish"), .str p, .str p, .int n], .tup [.str (Str.ofString "wish"), .str p, .str q, .int 0], .tup [.str (Str.ofString "wish"), .str p, .str q],
    .tup [.str (Str.ofString "wish"), .str p, .str q, .int n, .int 0], .lst [.str (Str.ofString "wish"), .str p, .str q, .int n], .tup [.str (Str.ofString "wish" ++ Str.ofString "s"), .str p, .str q, .int n], .tup [.non, .str p, .str q, .int n], .tup [.str (Str.ofString "wish"), .str (Str.ofString "A@b"), .str q, .int n],
    .tup [.str (Str.ofString "wish"), .str p, .non, .int n], .tup [.str (Str.ofString "wish"), .str p, .str q, .int (-1)], .tup [.str (Str.ofString "wish"), .str p, .str q, .bl true], .tup [], .non, .str (Str.ofString "wish"), .tup [.str (Str.ofString "wish"), .str p, .str q, .int n, .int 1, .int 2], .tup [.str p, .str q, .int n]] (x12 % 17) (by omega) (by show _ < (17 : Int); omega)
  refine ⟨d, ?_, ?_⟩
  · rw [cal_s rfl rfl]
    simp [b18, home_ok _ _ _ hp, g1, g2, e12, hc, e]
  · simp only [List.mem_cons, List.not_mem_nil, or_false] at hd
    rcases hd with rfl | rfl | rfl | rfl | rfl | rfl | rfl | rfl | rfl | rfl | rfl | rfl | rfl | rfl | rfl | rfl | rfl
    · exact nl_same hp near _ _ [] (.inl rfl) st
    · exact nl_same hp hp _ _ [] (.inl rfl) st
    · exact nl_num hp hq hn 0 (by omega) st
    · exact nl_len _ (by simp) st
    · exact nl_len _ (by simp) st
    · exact nl_kind _ (.inr (.inr ⟨_, rfl⟩)) st
    · exact nl_w4 hp hq hn _ (by decide +kernel) _ st
    · exact nl_none _ _ _ [] (.inl rfl) st
    · exact nl_p1 _ _ _ _ [] (.inl rfl) (by decide +kernel) (by decide +kernel) st
    · exact nl_p2 hp _ _ [] (.inl rfl) st
    · exact nl_num hp hq hn (-1) (by omega) st
    · exact nl_bool hp hq hn true st
    · exact nl_len _ (by simp) st
    · exact nl_kind _ (.inl rfl) st
    · exact nl_kind _ (.inr (.inl ⟨_, rfl⟩)) st
    · exact nl_w6 hp hq hn _ (by decide +kernel) _ _ _ st
    · exact nl_len _ (by simp) st
end L_k04_letters

namespace L_k04_letters
open PySem PySem.Spec PyProof.Rows L2 BB
/-- no answer -/
def NoA (st : Sto) (d : D) : Prop := ∀ K, cal PG (K + 5) 8 [d] st = .ok (.va (.bl false)) st
theorem na_i (n : Int) (w : Str) (i : Int) (h : ansI n w i = false) (st : Sto) : NoA st (.tup [.int n, .str w, .int i]) := fun K => by rw [ans_i, h]
theorem na_s (n : Int) (w : Str) (x : Str) (hx : x.length < 16777214) (h : ansS n w x = false) (st : Sto) : NoA st (.tup [.int n, .str w, .str x]) := fun K => by rw [ans_s _ _ _ _ hx, h]
theorem na_b (b : Bool) (w a : D) (st : Sto) : NoA st (.tup [.bl b, w, a]) := fun K => by
  rw [cal_s rfl rfl]; simp [b8, is_whole_b]
/-- an answer drawn -/
structure GoodA (st : Sto) (w : Str) (a : D) : Prop where
  yes : ∀ n : Int, 2 ≤ n → ∀ K, cal PG (K + 5) 8 [.tup [.int n, .str w, a]] st = .ok (.va (.bl true)) st
  zero : NoA st (.tup [.int 0, .str w, a])
  neg : NoA st (.tup [.int (-1), .str w, a])
theorem good_i (w : Str) (i : Int) (h : atI' w i = true) (hw : w ≠ Str.ofString "none") (st : Sto) : GoodA st w (.int i) := ⟨fun n h2 K => by
    rw [ans_i]
    have h0 : ¬ n = 0 := by omega
    have h1 : 1 + (if w = Str.ofString "open" then 1 else 0) ≤ n := by split <;> omega
    simp [ansI, h0, h, h1], na_i _ _ _ (by simp [ansI, hw]) st, na_i _ _ _ (by
    have h1 : ¬ (1 + (if w = Str.ofString "open" then 1 else 0) ≤ (-1 : Int)) := by split <;> omega
    simp [ansI, h1]) st⟩
theorem good_s (x : Str) (h : personL (cs x) = true) (hx : x.length < 16777214) (st : Sto) : GoodA st (Str.ofString "moved") (.str x) := ⟨fun n h2 K => by
    rw [ans_s _ _ _ _ hx]
    have h0 : ¬ n = 0 := by omega
    have h1 : 1 ≤ n := by omega
    simp [ansS, h0, h, h1], na_s _ _ _ hx (by simp [ansS]) st, na_s _ _ _ hx (by simp [ansS]) st⟩
theorem bent_a {p q x y : Str} (hp : PersonOf p x) (hq : PersonOf q y) (hn : x ≠ y) (n : Int) (h : 2 ≤ n) (w : Str) (a : D) (st : Sto) (hA : GoodA st w a) (xs : List D) (x12 x13 : Int) (e12 : xs[12]? = some (.int x12)) (e13 : xs[13]? = some (.int x13)) (K : Nat) :
    ∃ d, cal PG (K + 2) 18 [.tup [.str (Str.ofString "answer"), .str p, .str q, .int n, .str w, a], .lst xs] st = .ok (.va d) st ∧ NoL st d := by
  have lx := hp.len
  have ly := hq.len
  have hz : (Str.ofString "zz9@").length = 4 := by decide +kernel
  have hh : x.length ≤ 6 := by
    obtain ⟨a, e, _, g⟩ := hp
    exact (house_let g).2.1
  have g1 : (Str.ofString "zz9@").length + x.length ≤ 16777216 := by omega
  have g2 : (Str.ofString "answer").length + (Str.ofString "s").length ≤ 16777216 := by decide +kernel
  have near : PersonOf (Str.ofString "zz9@" ++ x) x := by
    obtain ⟨a, e, _, g⟩ := hp
    exact ⟨[122, 122, 57], by rw [cs_app, show cs (Str.ofString "zz9@") = [122, 122, 57, 64] by decide +kernel]; rfl, by decide, g⟩
  have hc : BB.cutD [D.str (Str.ofString "answer"), D.str p, D.str q, D.int n, D.str w, a] none (some (-1)) = [D.str (Str.ofString "answer"), D.str p, D.str q, D.int n, D.str w] := rfl
  have n0 : ¬ n = 0 := by omega
  by_cases odd : x13 % 2 = 1
  · obtain ⟨d, hd, e⟩ := atI_mem (α := D) [.tup [.str (Str.ofString "lets"), .int 2], .tup [.str (Str.ofString "refuses"), .int 0], .tup [.str (Str.ofString "bars"), .int 7], .tup [.str (Str.ofString "open"), .int 1], .tup [.str (Str.ofString "gone"), .int 3], .tup [.str (Str.ofString "moved"), .int 0], .tup [.str (Str.ofString "moved"), .str (Str.ofString "a")],
      .tup [.str (Str.ofString "none"), .int 0], .tup [.str (Str.ofString "asks"), .int 0], .tup [.str (Str.ofString "lets"), .str (Str.ofString "a@b")], .tup [.str (Str.ofString "gone"), .str (Str.ofString "a@b")], .tup [.str (Str.ofString "bars"), .non], .tup [.str (Str.ofString "Open"), .int 0]] (x12 % 13) (by omega) (by show _ < (13 : Int); omega)
    have pa : personL (cs (Str.ofString "a")) = false := by decide +kernel
    have la : (Str.ofString "a").length < 16777214 := by decide +kernel
    have lb : (Str.ofString "a@b").length < 16777214 := by decide +kernel
    have ex : ∃ w' a', d = .tup [.str w', a'] ∧ NoA st (.tup [.int n, .str w', a']) := by
      simp only [List.mem_cons, List.not_mem_nil, or_false] at hd
      rcases hd with rfl | rfl | rfl | rfl | rfl | rfl | rfl | rfl | rfl | rfl | rfl | rfl | rfl
      · exact ⟨_, _, rfl, na_i _ _ _ (by simp [ansI, atI', n0]) st⟩
      · exact ⟨_, _, rfl, na_i _ _ _ (by simp [ansI, atI', n0]) st⟩
      · exact ⟨_, _, rfl, na_i _ _ _ (by simp [ansI, atI', n0]) st⟩
      · exact ⟨_, _, rfl, na_i _ _ _ (by simp [ansI, atI', n0]) st⟩
      · exact ⟨_, _, rfl, na_i _ _ _ (by simp [ansI, atI', n0]) st⟩
      · exact ⟨_, _, rfl, na_i _ _ _ (by simp [ansI, atI', n0]) st⟩
      · exact ⟨_, _, rfl, na_s _ _ _ la (by simp [ansS, n0, pa]) st⟩
      · exact ⟨_, _, rfl, na_i _ _ _ (by simp [ansI, atI', n0]) st⟩
      · exact ⟨_, _, rfl, na_i _ _ _ (by simp [ansI, atI', n0]) st⟩
      · exact ⟨_, _, rfl, na_s _ _ _ lb (by simp [ansS, n0]) st⟩
      · exact ⟨_, _, rfl, na_s _ _ _ lb (by simp [ansS, n0]) st⟩
      · exact ⟨_, _, rfl, fun K => ans_o K _ _ _ (.inl rfl) st⟩
      · exact ⟨_, _, rfl, na_i _ _ _ (by simp [ansI, atI', n0]) st⟩
    obtain ⟨w', a', rfl, na⟩ := ex
    refine ⟨.tup [.str (Str.ofString "answer"), .str p, .str q, .int n, .str w', a'], ?_, nl_ans hp hq hn _ _ _ st na⟩
    rw [cal_s rfl rfl]
    simp [b18, home_ok _ _ _ hp, g1, g2, e12, e13, hc, e, odd]
  · obtain ⟨d, hd, e⟩ := atI_mem (α := D) [.tup [.str (Str.ofString "answer"), .str p, .str (Str.ofString "zz9@" ++ x), .int n, .str w, a], .tup [.str (Str.ofString "answer"), .str p, .str p, .int n, .str w, a], .tup [.str (Str.ofString "answer"), .str p, .str q, .int 0, .str w, a], .tup [.str (Str.ofString "answer"), .str p, .str q, .int n, .str w],
      .tup [.str (Str.ofString "answer"), .str p, .str q, .int n, .str w, a, .int 0], .lst [.str (Str.ofString "answer"), .str p, .str q, .int n, .str w, a], .tup [.str (Str.ofString "answer" ++ Str.ofString "s"), .str p, .str q, .int n, .str w, a], .tup [.non, .str p, .str q, .int n, .str w, a], .tup [.str (Str.ofString "answer"), .str (Str.ofString "A@b"), .str q, .int n, .str w, a],
      .tup [.str (Str.ofString "answer"), .str p, .non, .int n, .str w, a], .tup [.str (Str.ofString "answer"), .str p, .str q, .int (-1), .str w, a], .tup [.str (Str.ofString "answer"), .str p, .str q, .bl true, .str w, a], .tup [], .non, .str (Str.ofString "answer"), .tup [.str (Str.ofString "wish"), .str p, .str q, .int n, .str w, a, .int 1, .int 2], .tup [.str p, .str q, .int n, .str w, a]] (x12 % 17) (by omega) (by show _ < (17 : Int); omega)
    refine ⟨d, ?_, ?_⟩
    · rw [cal_s rfl rfl]
      simp [b18, home_ok _ _ _ hp, g1, g2, e12, e13, hc, e, odd]
    · simp only [List.mem_cons, List.not_mem_nil, or_false] at hd
      rcases hd with rfl | rfl | rfl | rfl | rfl | rfl | rfl | rfl | rfl | rfl | rfl | rfl | rfl | rfl | rfl | rfl | rfl
      · exact nl_same hp near _ _ _ (.inr rfl) st
      · exact nl_same hp hp _ _ _ (.inr rfl) st
      · exact nl_ans hp hq hn _ _ _ st hA.zero
      · exact nl_len _ (by simp) st
      · exact nl_len _ (by simp) st
      · exact nl_kind _ (.inr (.inr ⟨_, rfl⟩)) st
      · exact nl_w6 hp hq hn _ (by decide +kernel) _ _ _ st
      · exact nl_none _ _ _ _ (.inr rfl) st
      · exact nl_p1 _ _ _ _ _ (.inr rfl) (by decide +kernel) (by decide +kernel) st
      · exact nl_p2 hp _ _ _ (.inr rfl) st
      · exact nl_ans hp hq hn _ _ _ st hA.neg
      · exact nl_ans hp hq hn _ _ _ st (na_b _ _ _ st)
      · exact nl_len _ (by simp) st
      · exact nl_kind _ (.inl rfl) st
      · exact nl_kind _ (.inr (.inl ⟨_, rfl⟩)) st
      · exact nl_len _ (by simp) st
      · exact nl_len _ (by simp) st
end L_k04_letters

namespace L_k04_letters
open PySem PySem.Spec PyProof.Rows L2 BB
theorem strOk_let {x : Str} (h : houseL (cs x) = true) : PyData.strOk x = true := by
  unfold PyData.strOk
  rw [← Array.all_toList, List.all_eq_true]
  intro s m
  have := (house_let h).2.2 s m
  have z : ∀ s ∈ LET, s < 1114112 := by decide
  simpa using z s this
theorem eq_two {x y : Str} (hx : houseL (cs x) = true) (hy : houseL (cs y) = true) : eqW (.ls [.str x, .str y]) (.ls [.str x, .str y]) = some true :=
  eqW_refl rfl (p := .list [.str x, .str y]) rfl (by simp [SeqAt.shaped, PyData.canLay0, PyData.canLayAll0, PyData.depth, PyData.depthAll, strOk_let hx, strOk_let hy])
theorem eq_tt : eqW (.ls [.bl true, .bl true]) (.ls [.bl true, .bl true]) = some true := eqW_refl rfl (p := .list [.bool true, .bool true]) rfl (by decide)
section
variable {p q x y : Str} (hp : PersonOf p x) (hq : PersonOf q y) (hn : x ≠ y) (hx : houseL (cs x) = true) (hy : houseL (cs y) = true) (xs : List D) (x12 x13 : Int) (e12 : xs[12]? = some (.int x12)) (e13 : xs[13]? = some (.int x13)) (st : Sto) (K : Nat)
include hp hq hn hx hy e12 e13
theorem turn_w (n : Int) (h : 2 ≤ n) (a0 a1 a3 a6 a7 e8 e9 e10 : BB.Slot) : ∃ s', forN PG (cal PG (K + 9)) 8 b19_0 (.tup [.str (Str.ofString "wish"), .str p, .str q, .int n]) ⟨[a0, a1, .va (.lst xs), a3, .va (.str p), .va (.str q), a6, a7, e8, e9, e10], st⟩ =
    .nx s' ∧ ∃ f8 f9 f10, s' = ⟨[a0, a1, .va (.lst xs), a3, .va (.str p), .va (.str q), a6, a7, f8, f9, f10], st⟩ := by
  obtain ⟨d, h1, h2⟩ := bent_w hp hq hn n (by omega) xs x12 x13 e12 e13 st (K + 7)
  have l1 := is_letter_w hp hq hn (K + 3) n (by omega) st
  have l2 := told_w hp hq K _ st (is_letter_w hp hq hn K n (by omega) st)
  have l3 := told_no K d st (h2 K)
  simp [b19_0, home_ok _ _ _ hp, home_ok _ _ _ hq, l1, l2, eq_two hx hy, h1, h2 (K + 3), l3, eq_tt]
theorem turn_a (n : Int) (h : 2 ≤ n) (w : Str) (a : D) (hA : GoodA st w a) (a0 a1 a3 a6 a7 e8 e9 e10 : BB.Slot) : ∃ s', forN PG (cal PG (K + 9)) 8 b19_0 (.tup [.str (Str.ofString "answer"), .str p, .str q, .int n, .str w, a]) ⟨[a0, a1, .va (.lst xs), a3, .va (.str p), .va (.str q), a6, a7, e8, e9, e10], st⟩ =
    .nx s' ∧ ∃ f8 f9 f10, s' = ⟨[a0, a1, .va (.lst xs), a3, .va (.str p), .va (.str q), a6, a7, f8, f9, f10], st⟩ := by
  obtain ⟨d, h1, h2⟩ := bent_a hp hq hn n h w a st hA xs x12 x13 e12 e13 (K + 7)
  have l1 := is_letter_a hp hq hn (K + 3) n (by omega) w a st (hA.yes n h (K + 3))
  have l2 := told_a hp hq K _ st (is_letter_a hp hq hn K n (by omega) w a st (hA.yes n h K))
  have l3 := told_no K d st (h2 K)
  simp [b19_0, home_ok _ _ _ hp, home_ok _ _ _ hq, l1, l2, eq_two hy hx, h1, h2 (K + 3), l3, eq_tt]
end
def LawS (a0 : BB.Slot) (st : Sto) (s : S) : Prop := ∃ e1 e2 e3 e4 e5 e6 e7 e8 e9 e10, s = ⟨[a0, e1, e2, e3, e4, e5, e6, e7, e8, e9, e10], st⟩
theorem turn_ok (K : Nat) (a0 : BB.Slot) (c : Int) (st : Sto) (s : S) (h : LawS a0 st s) : ∃ s', forN PG (cal PG (K + 9)) 1 b19_1 (.int c) s = .nx s' ∧ LawS a0 st s' := by
  obtain ⟨e1, e2, e3, e4, e5, e6, e7, e8, e9, e10, rfl⟩ := h
  obtain ⟨xs, hl, hx, hd⟩ := draws_ok (K + 8) c 20 (by omega) (by omega) st
  match xs, hl with
  | [x0, x1, x2, x3, x4, x5, x6, x7, x8, x9, x10, x11, x12, x13, x14, x15, x16, x17, x18, x19], _ =>
    obtain ⟨a, b, ha, hb, hab, hh⟩ := houses_ex x0 (hx x0 (by simp)).1 (hx x0 (by simp)).2
    obtain ⟨p, hp, pp⟩ := people_ex a ha x1 x2 x3 x4 x5 [.int x6, .int x7, .int x8, .int x9, .int x10, .int x11, .int x12, .int x13, .int x14, .int x15, .int x16, .int x17, .int x18, .int x19] (hx x5 (by simp)).1 (hx x5 (by simp)).2
    obtain ⟨q, hq, qq⟩ := people_ex b hb x2 x3 x4 x5 x6 [.int x7, .int x8, .int x9, .int x10, .int x11, .int x12, .int x13, .int x14, .int x15, .int x16, .int x17, .int x18, .int x19] (hx x6 (by simp)).1 (hx x6 (by simp)).2
    have b16 := hx x16 (by simp)
    have b15 := hx x15 (by simp)
    have b17 := hx x17 (by simp)
    have lb : (Str.ofString "a@b").length < 16777214 := by decide +kernel
    have pb : personL (cs (Str.ofString "a@b")) = true := by decide +kernel
    obtain ⟨d, hd2, e⟩ := atI_mem (α := D) [.tup [.str (Str.ofString "lets"), .int (1 + 2 * x17)], .tup [.str (Str.ofString "refuses"), .int 1], .tup [.str (Str.ofString "bars"), .int 0], .tup [.str (Str.ofString "open"), .int 0], .tup [.str (Str.ofString "gone"), .int 0], .tup [.str (Str.ofString "moved"), .str (Str.ofString "a@b")]] (x18 % 6) (by omega) (by show _ < (6 : Int); omega)
    have ex : ∃ w a, d = .tup [.str w, a] ∧ GoodA st w a := by
      simp only [List.mem_cons, List.not_mem_nil, or_false] at hd2
      rcases hd2 with rfl | rfl | rfl | rfl | rfl | rfl
      · exact ⟨_, _, rfl, good_i _ _ (by simp [atI']; omega) (by decide +kernel) st⟩
      · exact ⟨_, _, rfl, good_i _ _ (by simp [atI']) (by decide +kernel) st⟩
      · exact ⟨_, _, rfl, good_i _ _ (by simp [atI']) (by decide +kernel) st⟩
      · exact ⟨_, _, rfl, good_i _ _ (by simp [atI']) (by decide +kernel) st⟩
      · exact ⟨_, _, rfl, good_i _ _ (by simp [atI']) (by decide +kernel) st⟩
      · exact ⟨_, _, rfl, good_s _ pb lb st⟩
    obtain ⟨w, v, rfl, hA⟩ := ex
    obtain ⟨n, hn⟩ : ∃ n : Int, n = 2 + (x15 + 139314069504000000 * x16) % 10000000000000000000 := ⟨_, rfl⟩
    have h2 : 2 ≤ n := by omega
    obtain ⟨_, t1, f8, f9, f10, rfl⟩ := turn_w hp hq hab ha hb x12 x13 rfl rfl st K n h2 a0 (.va (.int c)) (.va (.lst [.str a, .str b])) (.va (.int n)) (.va (.tup [.str w, v])) e8 e9 e10 (xs := [.int x0, .int x1, .int x2, .int x3, .int x4, .int x5, .int x6, .int x7, .int x8, .int x9, .int x10, .int x11, .int x12, .int x13, .int x14, .int x15, .int x16, .int x17, .int x18, .int x19])
    obtain ⟨_, t2, g8, g9, g10, rfl⟩ := turn_a hp hq hab ha hb x12 x13 rfl rfl st K n h2 w v hA a0 (.va (.int c)) (.va (.lst [.str a, .str b])) (.va (.int n)) (.va (.tup [.str w, v])) f8 f9 f10 (xs := [.int x0, .int x1, .int x2, .int x3, .int x4, .int x5, .int x6, .int x7, .int x8, .int x9, .int x10, .int x11, .int x12, .int x13, .int x14, .int x15, .int x16, .int x17, .int x18, .int x19])
    rw [forN_s]
    simp [-forN_s, b19_1, hd, hh, pp, qq, e, ← hn, forTurns_cons, t1, t2, LawS]
theorem law_holds (ns : List Int) (hn : ns.length ≤ 63) : ∃ st, BB.cal PG 22 19 [.scr (ns.map .int)] [] = .ok (.va (.bl true)) st := by
  rw [cal_s rfl rfl]
  have h2 : min 30 (ns.length) + 1 ≤ 16777216 := by omega
  simp [b19, h2]
  obtain ⟨s', e, f⟩ := for_all (b := forN PG (cal PG 21) 1 b19_1) (LawS (.va (.scr (ns.map .int))) []) ((ns.map D.int).take 30 ++ [D.int 0]) _ ⟨.no, .no, .no, .no, .no, .no, .no, .no, .no, .no, rfl⟩ (fun d hd s p => by
    have : ∃ c, d = .int c := by
      rcases List.mem_append.mp hd with hd | hd
      · obtain ⟨c, _, rfl⟩ := List.mem_map.mp (List.mem_of_mem_take hd)
        exact ⟨c, rfl⟩
      · exact ⟨_, List.mem_singleton.mp hd⟩
    obtain ⟨c, rfl⟩ := this
    exact (turn_ok 12 _ c [] s p).imp fun s' h => ⟨.inl h.1, h.2⟩)
  obtain ⟨f1, f2, f3, f4, f5, f6, f7, f8, f9, f10, rfl⟩ := f
  refine ⟨[], (congrArg (fun f => outR (seqF PG (cal PG 21) _ f)) e).trans ?_⟩
  simp
end L_k04_letters

open PySem PySem.W PyProof.Rows
set_option maxHeartbeats 0 in
theorem PySem.Challenge.cw_bothbooks_k04_letters_holds : PySem.Challenge.rw_bothbooks_k04_letters.Holds := by
  w_on; o_law; k_head; (case hw => w_witness2)
  k_fill
  refine BB.walk (l := PySem.Challenge.rw_bothbooks_k04_letters) (k := 22) rfl rfl ⟨rfl, by decide, by decide⟩ (fun w h Y => PySem.W.kIn_of Y) ?F
  case F =>
    intro w mg fa h KX G hmg
    refine' L_k04_letters.all_mk KX G hmg ?a0 ?l0 ?c0 ?k0 ?a1 ?l1 ?c1 ?k1 ?a2 ?l2 ?c2 ?k2 ?a3 ?l3 ?c3 ?k3 ?a4 ?l4 ?c4 ?k4 ?a5 ?l5 ?c5 ?k5 ?a6 ?l6 ?c6 ?k6 ?a7 ?l7 ?c7 ?k7 ?a8 ?l8 ?c8 ?k8 ?a9 ?l9 ?c9 ?k9 ?a10 ?l10 ?c10 ?k10 ?a11 ?l11 ?c11 ?k11 ?a12 ?l12 ?c12 ?k12 ?a13 ?l13 ?c13 ?k13 ?a14 ?l14 ?c14 ?k14 ?a15 ?l15 ?c15 ?k15 ?a16 ?l16 ?c16 ?k16 ?a17 ?l17 ?c17 ?k17 ?a18 ?l18 ?c18 ?k18 ?a19 ?l19 ?c19 ?k19 ?z_len ?z_int ?z_str ?z_abs ?z_max ?z_min ?z_sum ?z_all ?z_any ?z_list ?z_tuple ?z_isinstance ?z_ord ?z_sorted ?z_set ?z_range ?z_enumerate ?z_zip ?z_bool ?z_dict ?ga0 ?ga1 ?ga2 ?ga3 ?ga4 ?gl4 ?ga5 ?gl5 ?xa0 ?xq0 ?xk0 ?xs0 ?xt0 ?xg0 ?xh0 ?xd0 ?xe0 ?xm0 ?xa1 ?xq1 ?xk1 ?xs1 ?xt1 ?xg1 ?xh1 ?xd1 ?xe1 ?xm1 ?xa2 ?xq2 ?xk2 ?xs2 ?xt2 ?xg2 ?xh2 ?xd2 ?xe2 ?xm2 ?xa3 ?xq3 ?xk3 ?xs3 ?xt3 ?xg3 ?xh3 ?xd3 ?xe3 ?xm3 ?zn ?zt ?xp0_0 ?xi0_0 ?xp0_1 ?xi0_1 ?xp0_2 ?xi0_2 ?xp0_3 ?xi0_3 ?xp1_0 ?xi1_0 ?xp1_1 ?xi1_1 ?xp1_2 ?xi1_2 ?xp1_3 ?xi1_3 ?xp2_0 ?xi2_0 ?xp2_1 ?xi2_1 ?xp2_2 ?xi2_2 ?xp2_3 ?xi2_3 ?xp3_0 ?xi3_0 ?xp3_1 ?xi3_1 ?xp3_2 ?xi3_2 ?xp3_3 ?xi3_3 ?hlaw
    (case a0 => k_is); (case l0 => k_is); (case c0 => k_is); (case k0 => k_is); (case a1 => k_is); (case l1 => k_is); (case c1 => k_is); (case k1 => k_is); (case a2 => k_is); (case l2 => k_is); (case c2 => k_is); (case k2 => k_is); (case a3 => k_is); (case l3 => k_is); (case c3 => k_is); (case k3 => k_is); (case a4 => k_is); (case l4 => k_is); (case c4 => k_is); (case k4 => k_is); (case a5 => k_is); (case l5 => k_is); (case c5 => k_is); (case k5 => k_is); (case a6 => k_is); (case l6 => k_is); (case c6 => k_is); (case k6 => k_is); (case a7 => k_is); (case l7 => k_is); (case c7 => k_is); (case k7 => k_is); (case a8 => k_is); (case l8 => k_is); (case c8 => k_is); (case k8 => k_is); (case a9 => k_is); (case l9 => k_is); (case c9 => k_is); (case k9 => k_is); (case a10 => k_is); (case l10 => k_is); (case c10 => k_is); (case k10 => k_is); (case a11 => k_is); (case l11 => k_is); (case c11 => k_is); (case k11 => k_is); (case a12 => k_is); (case l12 => k_is); (case c12 => k_is); (case k12 => k_is); (case a13 => k_is); (case l13 => k_is); (case c13 => k_is); (case k13 => k_is); (case a14 => k_is); (case l14 => k_is); (case c14 => k_is); (case k14 => k_is); (case a15 => k_is); (case l15 => k_is); (case c15 => k_is); (case k15 => k_is); (case a16 => k_is); (case l16 => k_is); (case c16 => k_is); (case k16 => k_is); (case a17 => k_is); (case l17 => k_is); (case c17 => k_is); (case k17 => k_is); (case a18 => k_is); (case l18 => k_is); (case c18 => k_is); (case k18 => k_is); (case a19 => k_is); (case l19 => k_is); (case c19 => k_is); (case k19 => k_is); (case z_len => k_is); (case z_int => k_is); (case z_str => k_is); (case z_abs => k_is); (case z_max => k_is); (case z_min => k_is); (case z_sum => k_is); (case z_all => k_is); (case z_any => k_is); (case z_list => k_is); (case z_tuple => k_is); (case z_isinstance => k_is); (case z_ord => k_is); (case z_sorted => k_is); (case z_set => k_is); (case z_range => k_is); (case z_enumerate => k_is); (case z_zip => k_is); (case z_bool => k_is); (case z_dict => k_is); (case ga0 => k_is); (case ga1 => k_is); (case ga2 => k_is); (case ga3 => k_is); (case ga4 => k_is); (case gl4 => k_is); (case ga5 => k_is); (case gl5 => k_is); (case xa0 => k_is); (case xq0 => k_exc); (case xk0 => k_is); (case xs0 => k_is); (case xt0 => k_is); (case xg0 => k_is); (case xh0 => k_is); (case xd0 => k_is); (case xe0 => k_is); (case xm0 => k_is); (case xa1 => k_is); (case xq1 => k_exc); (case xk1 => k_is); (case xs1 => k_is); (case xt1 => k_is); (case xg1 => k_is); (case xh1 => k_is); (case xd1 => k_is); (case xe1 => k_is); (case xm1 => k_is); (case xa2 => k_is); (case xq2 => k_exc); (case xk2 => k_is); (case xs2 => k_is); (case xt2 => k_is); (case xg2 => k_is); (case xh2 => k_is); (case xd2 => k_is); (case xe2 => k_is); (case xm2 => k_is); (case xa3 => k_is); (case xq3 => k_exc); (case xk3 => k_is); (case xs3 => k_is); (case xt3 => k_is); (case xg3 => k_is); (case xh3 => k_is); (case xd3 => k_is); (case xe3 => k_is); (case xm3 => k_is); (case zn => k_is); (case zt => k_is); (case xp0_0 => first | rfl | k_is); (case xi0_0 => kit_is); (case xp0_1 => first | rfl | k_is); (case xi0_1 => kit_is); (case xp0_2 => first | rfl | k_is); (case xi0_2 => kit_is); (case xp0_3 => first | rfl | k_is); (case xi0_3 => kit_is); (case xp1_0 => first | rfl | k_is); (case xi1_0 => kit_is); (case xp1_1 => first | rfl | k_is); (case xi1_1 => kit_is); (case xp1_2 => first | rfl | k_is); (case xi1_2 => kit_is); (case xp1_3 => first | rfl | k_is); (case xi1_3 => kit_is); (case xp2_0 => first | rfl | k_is); (case xi2_0 => kit_is); (case xp2_1 => first | rfl | k_is); (case xi2_1 => kit_is); (case xp2_2 => first | rfl | k_is); (case xi2_2 => kit_is); (case xp2_3 => first | rfl | k_is); (case xi2_3 => kit_is); (case xp3_0 => first | rfl | k_is); (case xi3_0 => kit_is); (case xp3_1 => first | rfl | k_is); (case xi3_1 => kit_is); (case xp3_2 => first | rfl | k_is); (case xi3_2 => kit_is); (case xp3_3 => first | rfl | k_is); (case xi3_3 => kit_is)
    (case hlaw => exact L_k04_letters.law_holds)
