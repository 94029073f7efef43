import PyProof.Rows.All
import Wide.All
import OpenK.AllK
import Wide.FinOn
import PySem.Challenge.RW_formulahall_k06_whole_kinds_led_together
import HandS.ForMost
import HandS.Deep
import HandS.Flow
import HandS.TupAny
import HandS.IsInst
import HandS.CallLocal
import HandS.SetKeys
import HandS.Style
import HandS.Strs
import HandS.Replace
import HandS.More
import HandS.Text
import HandS.Head0
import HandS.Head1
import HandS.Head2
import HandS.HeadEnd
import HandS.HeadHook1
import HandS.HeadHook2
import HandS.HeadHook3
import HandS.HeadHook4
set_option Elab.async false
set_option linter.all false
set_option maxRecDepth 100000
section
/-! FH1: a small language of its own for what the law's text does, over plain data: its terms and what they come to. -/
namespace FH
open PySem L2

/-- plain data: what values are, read to their depth; what may change stands behind a number -/
inductive D where
  | non | bl (b : Bool) | int (i : Int) | str (x : Str)
  | tup (ds : List D) | lst (ds : List D)
  | ref (n : Nat) | fn (n : Nat) | ty (n : String)
  deriving Inhabited

/-- what may change -/
inductive Cell where
  | lst (ds : List D)
  | dic (kvs : List (Key × D))
  | ins (c : Nat) (fs : List (Str × D))
  | tup (ds : List D)
  deriving Inhabited
abbrev Store := List Cell
/-- a def's name: nothing yet; a value; a list or dict that the def alone holds -/
inductive Slot where
  | emp | val (d : D) | own (c : Cell)
  deriving Inhabited
abbrev Slots := List Slot

/-! ### plain operations -/
mutual
def D.py : D → Option PyData
  | .non => some .none
  | .bl b => some (.bool b)
  | .int i => some (.int i)
  | .str x => some (.str x)
  | .tup ds => (pyL ds).map .tuple
  | .lst ds => (pyL ds).map .list
  | .ref _ => none | .fn _ => none | .ty _ => none
def pyL : List D → Option (List PyData)
  | [] => some []
  | d :: ds => match d.py, pyL ds with
    | some x, some xs => some (x :: xs)
    | _, _ => none
end
def D.flat : D → Bool
  | .non | .bl _ | .int _ | .str _ => true
  | _ => false
def b2i (b : Bool) : Int := if b then 1 else 0
/-- == of what has no parts -/
def eqF : D → D → Bool
  | .non, .non => true
  | .bl a, .bl b => a == b
  | .bl a, .int j => b2i a == j
  | .int i, .bl b => i == b2i b
  | .int i, .int j => i == j
  | .str x, .str y => x == y
  | _, _ => false
/-- == -/
def eqD (a b : D) : Option Bool :=
  if a.flat && b.flat then some (eqF a b)
  else match a.py, b.py with
    | some x, some y => if SeqAt.shaped x && SeqAt.shaped y then some (PyData.eqv x y) else none
    | _, _ => none
/-- x in a list or tuple -/
def inD (a : D) (ds : List D) : Option Bool :=
  if a.flat && ds.all D.flat then some (ds.any fun z => eqF z a)
  else match a.py, pyL ds with
    | some x, some xs => if SeqAt.shaped x && SeqAt.shaped (.list xs) then some (xs.any fun z => PyData.eqv z x) else none
    | _, _ => none
/-- truth -/
def truD : D → Option Bool
  | .non => some false
  | .bl b => some b
  | .int i => some (i != 0)
  | .str x => if x.length ≤ sizeLine then some (x.length != 0) else none
  | .tup ds => some (!ds.isEmpty)
  | .lst ds => some (!ds.isEmpty)
  | _ => none
def keyD : D → Option Key
  | .int i => some (.inl i)
  | .str x => some (.inr x)
  | _ => none
def getK (kvs : List (Key × D)) (k : Key) : Option D := (kvs.find? fun kv => decide (kv.1 = k)).map (·.2)
def setK (kvs : List (Key × D)) (k : Key) (v : D) : List (Key × D) :=
  if kvs.any fun kv => decide (kv.1 = k) then kvs.map fun kv => if kv.1 = k then (kv.1, v) else kv else kvs ++ [(k, v)]

inductive P where
  | bin (op : Operator) | neg | cmp (op : CmpOp) | ix
  | len | abs | int | str | repr | ord | isi | tuple | all | any | sum | min | max
  deriving DecidableEq, Repr

def boolsD : List D → Option (List Bool)
  | [] => some []
  | .bl b :: ds => (boolsD ds).map (b :: ·)
  | _ :: _ => none
def intsD : List D → Option (List Int)
  | [] => some []
  | .int b :: ds => (intsD ds).map (b :: ·)
  | _ :: _ => none
def binD : Operator → D → D → Option D
  | .Add, .int i, .int j => some (.int (i + j))
  | .Add, .str x, .str y => if x.length + y.length ≤ sizeLine then some (.str (x ++ y)) else none
  | .Add, .tup x, .tup y => if x.length + y.length ≤ sizeLine then some (.tup (x ++ y)) else none
  | .Add, .lst x, .lst y => if x.length ≤ sizeLine ∧ y.length ≤ sizeLine ∧ x.length + y.length ≤ sizeLine then some (.lst (x ++ y)) else none
  | .Sub, .int i, .int j => some (.int (i - j))
  | .Mult, .int i, .int j => if (-(2 ^ 64) < i ∧ i < 2 ^ 64) ∨ (-(2 ^ 64) < j ∧ j < 2 ^ 64) then some (.int (i * j)) else none
  | .FloorDiv, .int i, .int j => if j ≠ 0 ∧ j.natAbs < 1073741824 then some (.int (i.fdiv j)) else none
  | .Mod, .int i, .int j => if j ≠ 0 then some (.int (i.fmod j)) else none
  | .Pow, .int i, .int j => if 0 ≤ j ∧ j ≤ 1000000 ∧ i.natAbs < 2 ^ 64 then some (.int (i ^ j.toNat)) else none
  | _, _, _ => none
def cmpD : CmpOp → D → D → Option D
  | .Eq, a, b => (eqD a b).map .bl
  | .NotEq, a, b => (eqD a b).map fun k => .bl !k
  | .Lt, .int i, .int j => some (.bl (decide (i < j)))
  | .LtE, .int i, .int j => some (.bl (decide (i ≤ j)))
  | .Gt, .int i, .int j => some (.bl (decide (j < i)))
  | .GtE, .int i, .int j => some (.bl (decide (j ≤ i)))
  | .Lt, .str i, .str j => some (.bl (decide (i.cps.toList < j.cps.toList)))
  | .LtE, .str i, .str j => some (.bl (!decide (j.cps.toList < i.cps.toList)))
  | .Lt, .tup xs, .tup ys => match intsD xs, intsD ys with
    | some ns, some ms => some (.bl (HT.lexLt ns ms))
    | _, _ => none
  | .In, a, .tup ds => (inD a ds).map .bl
  | .In, a, .lst ds => (inD a ds).map .bl
  | .NotIn, a, .tup ds => (inD a ds).map fun k => .bl !k
  | .NotIn, a, .lst ds => (inD a ds).map fun k => .bl !k
  | .In, .str i, .str j => some (.bl (!(Builtin.Str.occurrences j i 0 j.length 1).isEmpty))
  | .NotIn, .str i, .str j => some (.bl (!(!(Builtin.Str.occurrences j i 0 j.length 1).isEmpty)))
  | .Is, a, .non => some (.bl (match a with | .non => true | _ => false))
  | .IsNot, a, .non => some (.bl (match a with | .non => false | _ => true))
  | _, _, _ => none
/-- an item by its number -/
def ixD : D → D → Option D
  | .tup ds, .int i => atI ds i
  | .lst ds, .int i => atI ds i
  | .str z, .int i => if z.length ≤ sizeLine then (atI z.cps.toList i).map fun c => .str ⟨#[c]⟩ else none
  | _, _ => none
/-- isinstance, by the type's name -/
def tyN : D → Option String
  | .non => some "NoneType" | .bl _ => some "bool" | .int _ => some "int" | .str _ => some "str" | .tup _ => some "tuple" | .lst _ => some "list"
  | _ => none
def isiD (d : D) (T : String) : Option Bool :=
  if T = "int" then (tyN d).map fun n => n == "int" || n == "bool"
  else if T = "bool" then (tyN d).map (· == "bool")
  else if T = "str" then (tyN d).map (· == "str")
  else if T = "tuple" then (tyN d).map (· == "tuple")
  else none
def reprD (d : D) : Option Str :=
  match d.py with
  | some x => if x.showable && !x.hasDict && decide (x.depth ≤ 64) && decide (x.shown.length ≤ sizeLine) then some x.shown else none
  | none => none
/-- methods of texts and tuples -/
inductive M where
  | sindex | join
  deriving DecidableEq, Repr
def strsD : List D → Option (List Str)
  | [] => some []
  | .str b :: ds => (strsD ds).map (b :: ·)
  | _ :: _ => none
def findI (z : Str) : List Str → Option Nat
  | [] => none
  | y :: ys => if y = z then some 0 else (findI z ys).map (· + 1)
def methD : M → D → List D → Option D
  | .sindex, .str a, [.str b] => match Builtin.Str.occurrences a b 0 a.length 1 with
    | i :: _ => some (.int (i : Nat))
    | [] => none
  | .join, .str a, [.lst ds] => (strsD ds).bind fun ys => if (ys.map (·.length)).sum + ys.length * a.length ≤ 16777216 then some (.str (Txt.join a ys)) else none
  | _, _, _ => none
def primD : P → List D → Option D
  | .bin op, [a, b] => binD op a b
  | .neg, [.int i] => some (.int (-i))
  | .cmp op, [a, b] => cmpD op a b
  | .ix, [a, b] => ixD a b
  | .len, [.tup ds] => some (.int ds.length)
  | .len, [.lst ds] => some (.int ds.length)
  | .len, [.str z] => if z.length ≤ sizeLine then some (.int z.length) else none
  | .abs, [.int i] => some (.int (if i < 0 then -i else i))
  | .int, [.int i] => some (.int i)
  | .int, [.bl b] => some (.int (if b then 1 else 0))
  | .ord, [.str z] => if z.length = 1 then some (.int (z.cps.getD 0 0 : Nat)) else none
  | .isi, [d, .ty T] => (isiD d T).map .bl
  | .tuple, [.tup ds] => some (.tup ds)
  | .tuple, [.lst ds] => some (.tup ds)
  | .all, [.lst ds] => (boolsD ds).map fun bs => .bl (bs.all id)
  | .any, [.lst ds] => (boolsD ds).map fun bs => .bl (bs.any id)
  | .sum, [.lst ds] => (intsD ds).map fun ns => .int ns.sum
  | .repr, [d] => (reprD d).map .str
  | .min, [.int i, .int j] => some (.int (if j < i then j else i))
  | .max, [.int i, .int j] => some (.int (if j > i then j else i))
  | _, _ => none

/-! ### the terms -/
mutual
inductive Tg where
  | nm (i : Nat)
  | tp (ts : Tgs)
inductive Tgs where
  | nil | cons (t : Tg) (ts : Tgs)
end
mutual
inductive IE where
  | lit (d : D)
  | var (i : Nat)
  | own (i : Nat)
  | glob (x : Str) (d : D)
  | prim (p : P) (es : IEs)
  | tindex (i : Nat) (e : IE)
  | meth (m : M) (o : IE) (es : IEs)
  | gdget (x : Str) (kvs : List (Str × D)) (k : IE)
  | slice (e : IE) (lo hi : IO)
  | nott (e : IE)
  | andd (a b : IE)
  | orr (a b : IE)
  | cond (c a b : IE)
  | cmp2 (o1 o2 : CmpOp) (a b c : IE)
  | tup (es : IEs)
  | frz (f : FE)
  | cell (f : FE)
  | celld
  | dcopy (e : IE)
  | dlen (e : IE)
  | call (x : Str) (f : Nat) (es : IEs)
  | callv (i : Nat) (es : IEs)
  | attr (c : Nat) (e : IE) (f : Str)
  | mcall (c : Nat) (m : Str) (f : Nat) (e : IE) (es : IEs)
  | make (x : Str) (c : Nat) (f : Nat) (es : IEs)
  | dhas (neg : Bool) (k d : IE)
  | dget (d k : IE)
  | dgetD (d k x : IE)
  | dsetd (d k x : IE)
inductive IEs where
  | nil | cons (e : IE) (es : IEs)
inductive IO where
  | no | som (e : IE)
inductive FE where
  | disp (es : IEs)
  | list (e : IE)
  | split (a b : IE)
  | cat (a b : IE)
  | comp (g : Tg) (own : List (Str × Nat)) (s : Src) (c : IO) (e : IE)
inductive Src where
  | it (e : IE)
  | range1 (e : IE)
  | range2 (a b : IE)
  | enum (e : IE)
  | zip (a b : IE)
  | cel (e : IE)
end
/-- what a name is given: a value, or a list that it alone holds -/
inductive In where
  | v (e : IE) | o (f : FE)
mutual
inductive IS where
  | expr (e : IE)
  | ret (e : IE)
  | retN
  | set (i : Nat) (e : IE)
  | unp (g : Tg) (e : IE)
  | par (i j : Nat) (a b : In)
  | setOwn (i : Nat) (f : FE)
  | setTup (i : Nat) (es : IEs)
  | freeze (i : Nat) (s : IS)
  | ifs (c : IE) (a b : ISs)
  | fors (g : Tg) (s : Src) (b : ISs)
  | whil (c : IE) (b : ISs)
  | brk | cnt | pass
  | setIx (o i e : IE)
  | setKy (o i e : IE)
  | augIx (op : Operator) (o i e : IE)
  | aug (op : Operator) (i : Nat) (e : IE)
  | setAt (c : Nat) (o : IE) (f : Str) (e : IE)
  | setAt2 (c : Nat) (i : Nat) (f g : Str) (a b : IE)
  | app (o : IE) (e : IE)
  | appOwn (i : Nat) (e : IE)
  | extOwn (i : Nat) (f : FE)
inductive ISs where
  | nil | cons (s : IS) (ss : ISs)
end

/-! ### what they come to -/
mutual
def asgT : Tg → D → Slots → Option Slots
  | .nm i, d, ρ => if i < ρ.length then some (ρ.set i (.val d)) else none
  | .tp ts, .tup ds, ρ => asgTs ts ds ρ
  | .tp _, _, _ => none
def asgTs : Tgs → List D → Slots → Option Slots
  | .nil, [], ρ => some ρ
  | .cons t ts, d :: ds, ρ => (asgT t d ρ).bind fun ρ' => asgTs ts ds ρ'
  | _, _, _ => none
end
def viewD (μ : Store) : D → D
  | .ref n => match μ[n]? with
    | some (.lst ds) => .lst ds
    | _ => .ref n
  | d => d
def slotD (ρ : Slots) (i : Nat) : Option D := match ρ[i]? with
  | some (.val d) => some d
  | _ => none
def ownD (ρ : Slots) (i : Nat) : Option D := match ρ[i]? with
  | some (.own (.lst ds)) => some (.lst ds)
  | some (.own (.tup ds)) => some (.tup ds)
  | _ => none
def tupS (ρ : Slots) (i : Nat) : Option (List D) := match ρ[i]? with
  | some (.own (.tup ds)) => some ds
  | _ => none
def wipeS (ρ : Slots) : List Nat → Slots
  | [] => ρ
  | v :: vs => (wipeS ρ vs).set v .emp
def itemsD : D → Option (List D)
  | .tup ds => some ds
  | .lst ds => some ds
  | .str z => some (z.cps.toList.map fun c => .str ⟨#[c]⟩)
  | _ => none
def rangeD (lo : Int) (n : Nat) : List D := (List.range n).map fun k => .int (lo + (k : Nat))
/-- a comprehension's turns -/
def loopC (f : D → Store → Option (Option D × Store)) : List D → Store → Option (List D × Store)
  | [], μ => some ([], μ)
  | x :: xs, μ => (f x μ).bind fun r => (loopC f xs r.2).bind fun q => some ((match r.1 with | some y => y :: q.1 | none => q.1), q.2)

/-- .. over a list that may change meanwhile, as it stands at each turn -/
def loopCC (f : D → Store → Option (Option D × Store)) (n : Nat) : Nat → Nat → Store → Option (List D × Store)
  | 0, _, _ => none
  | k + 1, i, μ => match μ[n]? with
    | some (.lst ds) => match ds[i]? with
      | none => some ([], μ)
      | some x => (f x μ).bind fun r => (loopCC f n k (i + 1) r.2).bind fun q => some ((match r.1 with | some y => y :: q.1 | none => q.1), q.2)
    | _ => none
/-- what is walked: these, or the list at n -/
inductive Sr where
  | items (ds : List D) | cel (n : Nat)

abbrev Fns := Nat → List D → Store → Option (D × Store)
structure Env2 where
  fns : Fns
  inits : Fns

section
variable (Γ : Env2)
mutual
def evE : IE → Slots → Store → Option (D × Store)
  | .lit d, _, μ => some (d, μ)
  | .var i, ρ, μ => (slotD ρ i).map fun d => (d, μ)
  | .own i, ρ, μ => (ownD ρ i).map fun d => (d, μ)
  | .glob _ d, _, μ => some (d, μ)
  | .prim p es, ρ, μ => (evEs es ρ μ).bind fun r => (primD p (r.1.map (viewD r.2))).map fun d => (d, r.2)
  | .tindex i e, ρ, μ => (tupS ρ i).bind fun ds => (evE e ρ μ).bind fun x => match x.1 with
      | .str z => (strsD ds).bind fun ys => (findI z ys).map fun j => (.int (j : Nat), x.2)
      | _ => none
  | .meth m o es, ρ, μ => (evE o ρ μ).bind fun x => (evEs es ρ x.2).bind fun r => (methD m x.1 (r.1.map (viewD r.2))).map fun d => (d, r.2)
  | .gdget _ kvs k, ρ, μ => (evE k ρ μ).bind fun x => match x.1 with
      | .str z => (kvs.lookup z).map fun d => (d, x.2)
      | _ => none
  | .slice e lo hi, ρ, μ => (evE e ρ μ).bind fun r => (evO lo ρ r.2).bind fun l => (evO hi ρ l.2).bind fun h =>
      match viewD h.2 r.1 with
      | .tup ds => some (.tup ((ds.drop (HT.sIx ds.length 0 l.1)).take (HT.sIx ds.length ds.length h.1 - HT.sIx ds.length 0 l.1)), h.2)
      | .lst ds => some (.lst ((ds.drop (HT.sIx ds.length 0 l.1)).take (HT.sIx ds.length ds.length h.1 - HT.sIx ds.length 0 l.1)), h.2)
      | .str z => if z.length ≤ sizeLine then some (.str (cutS z l.1 h.1), h.2) else none
      | _ => none
  | .nott e, ρ, μ => (evE e ρ μ).bind fun r => (truD (viewD r.2 r.1)).map fun k => (.bl !k, r.2)
  | .andd a b, ρ, μ => (evE a ρ μ).bind fun r => (truD (viewD r.2 r.1)).bind fun k => if k then evE b ρ r.2 else some r
  | .orr a b, ρ, μ => (evE a ρ μ).bind fun r => (truD (viewD r.2 r.1)).bind fun k => if k then some r else evE b ρ r.2
  | .cond c a b, ρ, μ => (evE c ρ μ).bind fun r => (truD (viewD r.2 r.1)).bind fun k => if k then evE a ρ r.2 else evE b ρ r.2
  | .cmp2 o1 o2 a b c, ρ, μ => (evE a ρ μ).bind fun x => (evE b ρ x.2).bind fun y => (cmpD o1 (viewD y.2 x.1) (viewD y.2 y.1)).bind fun k =>
      match k with
      | .bl true => (evE c ρ y.2).bind fun z => (cmpD o2 (viewD z.2 y.1) (viewD z.2 z.1)).map fun d => (d, z.2)
      | .bl false => some (.bl false, y.2)
      | _ => none
  | .tup es, ρ, μ => (evEs es ρ μ).bind fun r => if r.1.length ≤ sizeLine then some (.tup r.1, r.2) else none
  | .frz f, ρ, μ => (evF f ρ μ).map fun r => (.lst r.1, r.2)
  | .cell f, ρ, μ => (evF f ρ μ).map fun r => (.ref r.2.length, r.2 ++ [.lst r.1])
  | .celld, _, μ => some (.ref μ.length, μ ++ [.dic []])
  | .dcopy e, ρ, μ => (evE e ρ μ).bind fun r => match r.1 with
      | .ref n => match r.2[n]? with
        | some (.dic kvs) => some (.ref r.2.length, r.2 ++ [.dic kvs])
        | _ => none
      | _ => none
  | .dlen e, ρ, μ => (evE e ρ μ).bind fun r => match r.1 with
      | .ref n => match r.2[n]? with
        | some (.dic kvs) => some (.int kvs.length, r.2)
        | _ => none
      | _ => none
  | .call _ f es, ρ, μ => (evEs es ρ μ).bind fun r => Γ.fns f r.1 r.2
  | .callv i es, ρ, μ => (slotD ρ i).bind fun d => match d with
      | .fn f => (evEs es ρ μ).bind fun r => Γ.fns f r.1 r.2
      | _ => none
  | .attr c e f, ρ, μ => (evE e ρ μ).bind fun r => match r.1 with
      | .ref n => match r.2[n]? with
        | some (.ins c' fs) => if c' = c then (fs.lookup f).map fun d => (d, r.2) else none
        | _ => none
      | _ => none
  | .mcall c m f e es, ρ, μ => (evE e ρ μ).bind fun r => match r.1 with
      | .ref n => match r.2[n]? with
        | some (.ins c' fs) => if c' = c ∧ fs.lookup m = none then (evEs es ρ r.2).bind fun q => Γ.fns f (.ref n :: q.1) q.2 else none
        | _ => none
      | _ => none
  | .make _ c f es, ρ, μ => (evEs es ρ μ).bind fun r => (Γ.inits f (.ref r.2.length :: r.1) (r.2 ++ [.ins c []])).bind fun q => match q.1 with
      | .non => some (.ref r.2.length, q.2)
      | _ => none
  | .dhas neg k d, ρ, μ => (evE k ρ μ).bind fun x => (evE d ρ x.2).bind fun r => match r.1 with
      | .ref n => match r.2[n]? with
        | some (.dic kvs) => (keyD x.1).map fun k => (.bl (if neg then !(getK kvs k).isSome else (getK kvs k).isSome), r.2)
        | _ => none
      | _ => none
  | .dget d k, ρ, μ => (evE d ρ μ).bind fun r => (evE k ρ r.2).bind fun x => match r.1 with
      | .ref n => match x.2[n]? with
        | some (.dic kvs) => (keyD x.1).bind fun k => (getK kvs k).map fun d => (d, x.2)
        | _ => none
      | _ => none
  | .dgetD d k z, ρ, μ => (evE d ρ μ).bind fun r => match r.1 with
      | .ref n => match r.2[n]? with
        | some (.dic _) => (evE k ρ r.2).bind fun x => (evE z ρ x.2).bind fun y => match y.2[n]? with
          | some (.dic kvs) => (keyD x.1).map fun k => ((getK kvs k).getD y.1, y.2)
          | _ => none
        | _ => none
      | _ => none
  | .dsetd d k z, ρ, μ => (evE d ρ μ).bind fun r => match r.1 with
      | .ref n => match r.2[n]? with
        | some (.dic _) => (evE k ρ r.2).bind fun x => (evE z ρ x.2).bind fun y => match y.2[n]? with
          | some (.dic kvs) => if kvs.length < sizeLine then (keyD x.1).map fun k => match getK kvs k with
              | some v => (v, y.2)
              | none => (y.1, y.2.set n (.dic (kvs ++ [(k, y.1)]))) else none
          | _ => none
        | _ => none
      | _ => none
def evEs : IEs → Slots → Store → Option (List D × Store)
  | .nil, _, μ => some ([], μ)
  | .cons e es, ρ, μ => (evE e ρ μ).bind fun r => (evEs es ρ r.2).map fun q => (r.1 :: q.1, q.2)
def evO : IO → Slots → Store → Option (Option Int × Store)
  | .no, _, μ => some (none, μ)
  | .som e, ρ, μ => (evE e ρ μ).bind fun r => match r.1 with
    | .int i => some (some i, r.2)
    | _ => none
/-- a comprehension's test -/
def evC : IO → Slots → Store → Option (Bool × Store)
  | .no, _, μ => some (true, μ)
  | .som c, ρ, μ => (evE c ρ μ).bind fun k => (truD (viewD k.2 k.1)).map fun b => (b, k.2)
/-- a new list -/
def evF : FE → Slots → Store → Option (List D × Store)
  | .disp es, ρ, μ => (evEs es ρ μ).bind fun r => if r.1.length ≤ sizeLine then some r else none
  | .list e, ρ, μ => (evE e ρ μ).bind fun r => match viewD r.2 r.1 with
    | .tup ds => some (ds, r.2)
    | .lst ds => some (ds, r.2)
    | _ => none
  | .split a b, ρ, μ => (evE a ρ μ).bind fun x => (evE b ρ x.2).bind fun y => match x.1, y.1 with
    | .str z, .str w => if w.length ≠ 0 ∧ z.length + 2 ≤ sizeLine then some ((Txt.split z w).map .str, y.2) else none
    | _, _ => none
  | .cat a b, ρ, μ => (evE a ρ μ).bind fun x => (evE b ρ x.2).bind fun y => match viewD y.2 x.1, viewD y.2 y.1 with
    | .lst xs, .lst ys => if xs.length ≤ sizeLine ∧ ys.length ≤ sizeLine ∧ xs.length + ys.length ≤ sizeLine then some (xs ++ ys, y.2) else none
    | _, _ => none
  | .comp g own s c e, ρ, μ => (evSrc s ρ μ).bind fun r =>
      match r.1 with
      | .items ds => if ds.length < sizeLine then loopC (fun x μ => (asgT g x (wipeS ρ (own.map (·.2)))).bind fun ρ' => (evC c ρ' μ).bind fun k =>
          if k.1 then (evE e ρ' k.2).map fun q => (some q.1, q.2) else some (none, k.2)) ds r.2 else none
      | .cel n => loopCC (fun x μ => (asgT g x (wipeS ρ (own.map (·.2)))).bind fun ρ' => (evC c ρ' μ).bind fun k =>
          if k.1 then (evE e ρ' k.2).map fun q => (some q.1, q.2) else some (none, k.2)) n sizeLine 0 r.2
/-- what is walked -/
def evSrc : Src → Slots → Store → Option (Sr × Store)
  | .it e, ρ, μ => (evE e ρ μ).bind fun r => (itemsD r.1).map fun ds => (.items ds, r.2)
  | .range1 e, ρ, μ => (evE e ρ μ).bind fun r => match r.1 with
    | .int j => if -(2 ^ 62) ≤ j ∧ j < 2 ^ 62 then some (.items (rangeD 0 j.toNat), r.2) else none
    | _ => none
  | .range2 a b, ρ, μ => (evE a ρ μ).bind fun r => (evE b ρ r.2).bind fun q => match r.1, q.1 with
    | .int i, .int j => if -(2 ^ 62) ≤ i ∧ i < 2 ^ 62 ∧ -(2 ^ 62) ≤ j ∧ j < 2 ^ 62 then some (.items (rangeD i (j - i).toNat), q.2) else none
    | _, _ => none
  | .enum e, ρ, μ => (evE e ρ μ).bind fun r => match r.1 with
    | .lst ds => some (.items (ds.zipIdx.map fun p => .tup [.int p.2, p.1]), r.2)
    | _ => none
  | .zip a b, ρ, μ => (evE a ρ μ).bind fun r => (evE b ρ r.2).bind fun q => match r.1, q.1 with
    | .lst xs, .lst ys => some (.items ((xs.zip ys).map fun p => .tup [p.1, p.2]), q.2)
    | _, _ => none
  | .cel e, ρ, μ => (evE e ρ μ).bind fun r => match r.1 with
    | .ref n => match r.2[n]? with
      | some (.lst _) => some (.cel n, r.2)
      | _ => none
    | _ => none
end

/-- how a statement ends -/
inductive Fl where
  | nx | brk | ct | ret (d : D)
abbrev SR := Option (Fl × Slots × Store)
def loopF (f : D → Slots → Store → SR) : List D → Slots → Store → SR
  | [], ρ, μ => some (.nx, ρ, μ)
  | x :: xs, ρ, μ => (f x ρ μ).bind fun r => match r.1 with
    | .nx => loopF f xs r.2.1 r.2.2
    | .ct => loopF f xs r.2.1 r.2.2
    | .brk => some (.nx, r.2)
    | .ret d => some (.ret d, r.2)
def loopW (c : Slots → Store → Option (Bool × Store)) (b : Slots → Store → SR) : Nat → Slots → Store → SR
  | 0, _, _ => none
  | n + 1, ρ, μ => (c ρ μ).bind fun k => if k.1 then (b ρ k.2).bind fun r => match r.1 with
      | .nx => loopW c b n r.2.1 r.2.2
      | .ct => loopW c b n r.2.1 r.2.2
      | .brk => some (.nx, r.2)
      | .ret d => some (.ret d, r.2)
    else some (.nx, ρ, k.2)
/-- as many turns as any loop here wants -/
def fuelW : Nat := 2 ^ 64
def putD (f : Str) (v : D) : List (Str × D) → List (Str × D)
  | [] => [(f, v)]
  | (g, w) :: r => if g = f then (g, v) :: r else (g, w) :: putD f v r
def setS (ρ : Slots) (i : Nat) (s : Slot) : Option Slots := if i < ρ.length then some (ρ.set i s) else none
def ownS (ρ : Slots) (i : Nat) : Option (List D) := match ρ[i]? with
  | some (.own (.lst ds)) => some ds
  | _ => none
def lstAt (μ : Store) (d : D) : Option (Nat × List D) := match d with
  | .ref n => match μ[n]? with
    | some (.lst ds) => some (n, ds)
    | _ => none
  | _ => none
def insAt (μ : Store) (c : Nat) (d : D) : Option (Nat × List (Str × D)) := match d with
  | .ref n => match μ[n]? with
    | some (.ins c' fs) => if c' = c then some (n, fs) else none
    | _ => none
  | _ => none
def evIn : In → Slots → Store → Option (Slot × Store)
  | .v e, ρ, μ => (evE Γ e ρ μ).map fun r => (.val r.1, r.2)
  | .o f, ρ, μ => (evF Γ f ρ μ).map fun r => (.own (.lst r.1), r.2)
mutual
def evS : IS → Slots → Store → SR
  | .expr e, ρ, μ => (evE Γ e ρ μ).map fun r => (.nx, ρ, r.2)
  | .ret e, ρ, μ => (evE Γ e ρ μ).map fun r => (.ret r.1, ρ, r.2)
  | .retN, ρ, μ => some (.ret .non, ρ, μ)
  | .set i e, ρ, μ => (evE Γ e ρ μ).bind fun r => (setS ρ i (.val r.1)).map fun ρ' => (.nx, ρ', r.2)
  | .unp g e, ρ, μ => (evE Γ e ρ μ).bind fun r => (asgT g r.1 ρ).map fun ρ' => (.nx, ρ', r.2)
  | .par i j a b, ρ, μ => (evIn Γ a ρ μ).bind fun x => (evIn Γ b ρ x.2).bind fun y => (setS ρ i x.1).bind fun ρ1 => (setS ρ1 j y.1).map fun ρ2 => (.nx, ρ2, y.2)
  | .setOwn i f, ρ, μ => (evF Γ f ρ μ).bind fun r => (setS ρ i (.own (.lst r.1))).map fun ρ' => (.nx, ρ', r.2)
  | .setTup i es, ρ, μ => (evEs Γ es ρ μ).bind fun r => if r.1.length ≤ sizeLine then (setS ρ i (.own (.tup r.1))).map fun ρ' => (.nx, ρ', r.2) else none
  | .freeze i s, ρ, μ => (ownS ρ i).bind fun ds => evS s (ρ.set i (.val (.lst ds))) μ
  | .ifs c a b, ρ, μ => (evE Γ c ρ μ).bind fun r => (truD (viewD r.2 r.1)).bind fun k => if k then evSs a ρ r.2 else evSs b ρ r.2
  | .fors g s b, ρ, μ => (evSrc Γ s ρ μ).bind fun r => match r.1 with
      | .items ds => loopF (fun x ρ μ => (asgT g x ρ).bind fun ρ' => evSs b ρ' μ) ds ρ r.2
      | .cel _ => none
  | .whil c b, ρ, μ => loopW (fun ρ μ => (evE Γ c ρ μ).bind fun r => (truD (viewD r.2 r.1)).map fun k => (k, r.2)) (fun ρ μ => evSs b ρ μ) fuelW ρ μ
  | .brk, ρ, μ => some (.brk, ρ, μ)
  | .cnt, ρ, μ => some (.ct, ρ, μ)
  | .pass, ρ, μ => some (.nx, ρ, μ)
  | .setIx o i e, ρ, μ => (evE Γ e ρ μ).bind fun x => (evE Γ o ρ x.2).bind fun r => (evE Γ i ρ r.2).bind fun k => match lstAt k.2 r.1, k.1 with
      | some (n, ds), .int m => (ixN ds.length m).map fun j => (.nx, ρ, k.2.set n (.lst (ds.set j x.1)))
      | _, _ => none
  | .setKy o i e, ρ, μ => (evE Γ e ρ μ).bind fun x => (evE Γ o ρ x.2).bind fun r => (evE Γ i ρ r.2).bind fun k => match r.1 with
      | .ref n => match k.2[n]? with
        | some (.dic kvs) => if kvs.length < sizeLine then (keyD k.1).map fun y => (.nx, ρ, k.2.set n (.dic (setK kvs y x.1))) else none
        | _ => none
      | _ => none
  | .augIx op o i e, ρ, μ => (evE Γ o ρ μ).bind fun r => (evE Γ i ρ r.2).bind fun k => match lstAt k.2 r.1, k.1 with
      | some (_, ds), .int m => (atI ds m).bind fun v => (evE Γ e ρ k.2).bind fun x => match op, v, x.1 with
        | .Add, .int a, .int b => match lstAt x.2 r.1 with
          | some (n, es) => (ixN es.length m).map fun j => (.nx, ρ, x.2.set n (.lst (es.set j (.int (a + b)))))
          | none => none
        | _, _, _ => none
      | _, _ => none
  | .aug op i e, ρ, μ => (slotD ρ i).bind fun v => (evE Γ e ρ μ).bind fun x => match op, v, x.1 with
      | .Add, .int a, .int b => some (.nx, ρ.set i (.val (.int (a + b))), x.2)
      | _, _, _ => none
  | .setAt c o f e, ρ, μ => (evE Γ e ρ μ).bind fun x => (evE Γ o ρ x.2).bind fun r => (insAt r.2 c r.1).bind fun p =>
      if p.2.length < 1000 then some (.nx, ρ, r.2.set p.1 (.ins c (putD f x.1 p.2))) else none
  | .setAt2 c i f g a b, ρ, μ => (evE Γ a ρ μ).bind fun x => (evE Γ b ρ x.2).bind fun y => (slotD ρ i).bind fun d => (insAt y.2 c d).bind fun p =>
      if p.2.length < 999 then some (.nx, ρ, (y.2.set p.1 (.ins c (putD f x.1 p.2))).set p.1 (.ins c (putD g y.1 (putD f x.1 p.2)))) else none
  | .app o e, ρ, μ => (evE Γ o ρ μ).bind fun r => (lstAt r.2 r.1).bind fun _ => (evE Γ e ρ r.2).bind fun x => (lstAt x.2 r.1).bind fun p =>
      if p.2.length < sizeLine then some (.nx, ρ, x.2.set p.1 (.lst (p.2 ++ [x.1]))) else none
  | .appOwn i e, ρ, μ => (ownS ρ i).bind fun ds => (evE Γ e ρ μ).bind fun x => if ds.length < sizeLine then some (.nx, ρ.set i (.own (.lst (ds ++ [x.1]))), x.2) else none
  | .extOwn i f, ρ, μ => (ownS ρ i).bind fun ds => (evF Γ f ρ μ).bind fun x => if ds.length + x.1.length ≤ sizeLine then some (.nx, ρ.set i (.own (.lst (ds ++ x.1))), x.2) else none
def evSs : ISs → Slots → Store → SR
  | .nil, ρ, μ => some (.nx, ρ, μ)
  | .cons s ss, ρ, μ => (evS s ρ μ).bind fun r => match r.1 with
    | .nx => evSs ss r.2.1 r.2.2
    | .brk => some (.brk, r.2)
    | .ct => some (.ct, r.2)
    | .ret d => some (.ret d, r.2)
end
end
/-- a def: its parameters, its names, its body -/
structure Fn where
  np : Nat
  size : Nat
  body : ISs
def start0 (F : Fn) (ds : List D) : Slots := ds.map .val ++ List.replicate (F.size - ds.length) .emp
def callF (fs : List Fn) (Γ : Env2) : Fns := fun f ds μ => match fs[f]? with
  | some F => if ds.length = F.np then match evSs Γ F.body (start0 F ds) μ with
      | some (.ret d, _, μ') => some (d, μ')
      | some (.nx, _, μ') => some (.non, μ')
      | _ => none
    else none
  | none => none
/-- all defs, to a depth of k calls within one another; and to one less -/
def runP (fs : List Fn) : Nat → Fns × Fns
  | 0 => (fun _ _ _ => none, fun _ _ _ => none)
  | k + 1 => (callF fs ⟨(runP fs k).1, (runP fs k).2⟩, (runP fs k).1)
def run (fs : List Fn) (k : Nat) : Fns := (runP fs k).1
end FH
end
section
/-! FH2: how plain data lies in the hand layer's heap; the plain operations are what the machine does. -/
namespace FH
open PySem PySem.Spec PyProof.Rows L2

/-- where the text's own defs and classes stand -/
structure Ev where
  K : PySem.W.Frag
  fa : Nat → Addr
  ca : Nat → Addr

/-- a list that the top wrote -/
def KL (K : PySem.W.Frag) (a : Addr) (vs : List V) : Prop := ∃ (its : List Value) (n : Nat), K.lookup a = some { cls := .type "list", data := .seq its.toArray n } ∧ vs.length ≤ sizeLine ∧ Vals vs its
/-- a list that stays -/
def FzL (K : PySem.W.Frag) (H : Hp) (a : Addr) (vs : List V) : Prop := (∃ o, H a = some (.frz o (.lst vs))) ∨ KL K a vs
/-- a list that is read -/
def RdL (K : PySem.W.Frag) (H : Hp) (a : Addr) (vs : List V) : Prop := Rd H a (.lst vs) ∨ KL K a vs
theorem FzL.rd {K : PySem.W.Frag} {H : Hp} {a : Addr} {vs : List V} (h : FzL K H a vs) : RdL K H a vs := h.elim (fun q => .inl (.inr q)) .inr
theorem RdL.sq {K : PySem.W.Frag} {H : Hp} {a : Addr} {vs : List V} (h : RdL K H a vs) : SqL K H a vs := h.elim .inl fun ⟨its, n, e, z, r⟩ => .inr ⟨_, its.toArray, n, e, rfl, rfl, rfl, by have := r.length; rw [List.size_toArray]; omega, by simpa using r⟩
theorem RdL.at_ {X : Cx} {pins : List (Addr × Obj)} {σ : L2.St} {s : Shared} {H : Hp} {a : Addr} {vs : List V} (h : RdL X.K H a vs) (I : Inv X pins σ H s) : ∃ (its : List Value) (n : Nat), vs.length ≤ sizeLine ∧ Vals vs its ∧ s.heap.get? a = some { cls := .type "list", data := .seq its.toArray n } := by
  rcases h with h | ⟨its, n, e, z, r⟩
  · obtain ⟨z, its, n, r, e⟩ := h.ok I.hok
    exact ⟨its, n, z, r, e⟩
  · exact ⟨its, n, z, r, I.kIn a _ e⟩

mutual
/-- how d lies: φ tells where the changing things stand -/
inductive Enc (ε : Ev) (φ : List Addr) (H : Hp) : V → D → Prop
  | non : Enc ε φ H .non .non
  | bl (b : Bool) : Enc ε φ H (.bl b) (.bl b)
  | int (i : Int) : Enc ε φ H (.int i) (.int i)
  | str (x : Str) : Enc ε φ H (.str x) (.str x)
  | ty (n : String) : Enc ε φ H (.ty n) (.ty n)
  | fn (n : Nat) : Enc ε φ H (.ref (ε.fa n)) (.fn n)
  | ref {n : Nat} {a : Addr} : φ[n]? = some a → Enc ε φ H (.ref a) (.ref n)
  | tup {a : Addr} {vs : List V} {ds : List D} : SqT ε.K H a vs → EncL ε φ H vs ds → Enc ε φ H (.ref a) (.tup ds)
  | lst {a : Addr} {vs : List V} {ds : List D} : FzL ε.K H a vs → EncL ε φ H vs ds → Enc ε φ H (.ref a) (.lst ds)
inductive EncL (ε : Ev) (φ : List Addr) (H : Hp) : List V → List D → Prop
  | nil : EncL ε φ H [] []
  | cons {v : V} {vs : List V} {d : D} {ds : List D} : Enc ε φ H v d → EncL ε φ H vs ds → EncL ε φ H (v :: vs) (d :: ds)
end

/-- what stays for good -/
structure Grow (H H' : Hp) : Prop where
  tups : ∀ b xs, H b = some (.tup xs) → H' b = some (.tup xs)
  frzs : ∀ b o u, H b = some (.frz o u) → H' b = some (.frz o u)
theorem Grow.refl {H : Hp} : Grow H H := ⟨fun _ _ q => q, fun _ _ _ q => q⟩
theorem Grow.trans {H H1 H2 : Hp} (a : Grow H H1) (b : Grow H1 H2) : Grow H H2 := ⟨fun c xs q => b.tups c xs (a.tups c xs q), fun c o u q => b.frzs c o u (a.frzs c o u q)⟩
theorem SqT.grow {K : PySem.W.Frag} {H H' : Hp} {a : Addr} {vs : List V} (g : Grow H H') (h : SqT K H a vs) : SqT K H' a vs := by
  rcases h with (q | ⟨o, q⟩) | q
  · exact .inl (.inl (g.tups _ _ q))
  · exact .inl (.inr ⟨o, g.frzs _ _ _ q⟩)
  · exact .inr q
theorem FzL.grow {K : PySem.W.Frag} {H H' : Hp} {a : Addr} {vs : List V} (g : Grow H H') (h : FzL K H a vs) : FzL K H' a vs := h.elim (fun ⟨o, q⟩ => .inl ⟨o, g.frzs _ _ _ q⟩) .inr
section
variable {ε : Ev} {φ : List Addr} {H H' : Hp}
theorem get_app {α : Type} {l m : List α} {n : Nat} {a : α} (h : l[n]? = some a) : (l ++ m)[n]? = some a := by
  have q := (List.getElem?_eq_some_iff.mp h).1
  rw [List.getElem?_append_left q]; exact h
mutual
theorem Enc.mono (φ2 : List Addr) (g : Grow H H') : ∀ {d : D} {v : V}, Enc ε φ H v d → Enc ε (φ ++ φ2) H' v d
  | .non, _, h => by cases h; exact .non
  | .bl _, _, h => by cases h; exact .bl _
  | .int _, _, h => by cases h; exact .int _
  | .str _, _, h => by cases h; exact .str _
  | .ty _, _, h => by cases h; exact .ty _
  | .fn _, _, h => by cases h; exact .fn _
  | .ref _, _, h => by cases h with | ref q => exact .ref (get_app q)
  | .tup ds, _, h => by cases h with | tup q r => exact .tup (SqT.grow g q) (EncL.mono φ2 g r)
  | .lst ds, _, h => by cases h with | lst q r => exact .lst (FzL.grow g q) (EncL.mono φ2 g r)
theorem EncL.mono (φ2 : List Addr) (g : Grow H H') : ∀ {ds : List D} {vs : List V}, EncL ε φ H vs ds → EncL ε (φ ++ φ2) H' vs ds
  | [], _, h => by cases h; exact .nil
  | d :: ds, _, h => by cases h with | cons q r => exact .cons (Enc.mono φ2 g q) (EncL.mono φ2 g r)
end
theorem Enc.grow {d : D} {v : V} (g : Grow H H') (h : Enc ε φ H v d) : Enc ε φ H' v d := by
  have q := Enc.mono [] g h
  rwa [List.append_nil] at q
theorem EncL.grow {ds : List D} {vs : List V} (g : Grow H H') (h : EncL ε φ H vs ds) : EncL ε φ H' vs ds := by
  have q := EncL.mono [] g h
  rwa [List.append_nil] at q
theorem EncL.length : ∀ {vs : List V} {ds : List D}, EncL ε φ H vs ds → vs.length = ds.length
  | _, [], h => by cases h; rfl
  | _, d :: ds, h => by cases h with | cons q r => simp [EncL.length r]
theorem EncL.app : ∀ {vs ws : List V} {ds es : List D}, EncL ε φ H vs ds → EncL ε φ H ws es → EncL ε φ H (vs ++ ws) (ds ++ es)
  | _, _, [], _, h, k => by cases h; exact k
  | _, _, d :: ds, _, h, k => by cases h with | cons q r => exact .cons q (EncL.app r k)
theorem EncL.get : ∀ {vs : List V} {ds : List D} {i : Nat} {d : D}, EncL ε φ H vs ds → ds[i]? = some d → ∃ v, vs[i]? = some v ∧ Enc ε φ H v d
  | _, [], i, d, h, e => by simp at e
  | _, x :: ds, 0, d, h, e => by cases h with | cons q r => simp at e; subst e; exact ⟨_, rfl, q⟩
  | _, x :: ds, i + 1, d, h, e => by
    cases h with
    | cons q r =>
      obtain ⟨v, h1, h2⟩ := EncL.get r (by simpa using e)
      exact ⟨v, by simpa using h1, h2⟩
theorem EncL.getV : ∀ {ds : List D} {vs : List V} {i : Nat} {v : V}, EncL ε φ H vs ds → vs[i]? = some v → ∃ d, ds[i]? = some d ∧ Enc ε φ H v d := by
  intro ds vs i v h e
  have hl := h.length
  have hi := (List.getElem?_eq_some_iff.mp e).1
  obtain ⟨d, hd⟩ : ∃ d, ds[i]? = some d := ⟨ds[i], by simp [show i < ds.length by omega]⟩
  obtain ⟨w, h1, h2⟩ := EncL.get h hd
  rw [e] at h1; cases h1
  exact ⟨d, hd, h2⟩
theorem EncL.drop : ∀ {vs : List V} {ds : List D} (n : Nat), EncL ε φ H vs ds → EncL ε φ H (vs.drop n) (ds.drop n)
  | _, _, 0, h => h
  | _, [], n + 1, h => by cases h; exact .nil
  | _, d :: ds, n + 1, h => by cases h with | cons q r => exact EncL.drop n r
theorem EncL.take : ∀ {vs : List V} {ds : List D} (n : Nat), EncL ε φ H vs ds → EncL ε φ H (vs.take n) (ds.take n)
  | _, _, 0, h => .nil
  | _, [], n + 1, h => by cases h; exact .nil
  | _, d :: ds, n + 1, h => by cases h with | cons q r => exact .cons q (EncL.take n r)
theorem EncL.set : ∀ {vs : List V} {ds : List D} {v : V} {d : D} (n : Nat), EncL ε φ H vs ds → Enc ε φ H v d → EncL ε φ H (vs.set n v) (ds.set n d)
  | _, [], _, _, n, h, k => by cases h; exact .nil
  | _, e :: ds, _, _, 0, h, k => by cases h with | cons q r => exact .cons k r
  | _, e :: ds, _, _, n + 1, h, k => by cases h with | cons q r => exact .cons q (EncL.set n r k)

/-- how an operand lies that is read at once -/
def Vw (ε : Ev) (φ : List Addr) (H : Hp) (v : V) (d : D) : Prop :=
  Enc ε φ H v d ∨ ∃ a vs ds, d = .lst ds ∧ v = .ref a ∧ RdL ε.K H a vs ∧ EncL ε φ H vs ds
inductive VwL (ε : Ev) (φ : List Addr) (H : Hp) : List V → List D → Prop
  | nil : VwL ε φ H [] []
  | cons {v : V} {vs : List V} {d : D} {ds : List D} : Vw ε φ H v d → VwL ε φ H vs ds → VwL ε φ H (v :: vs) (d :: ds)
theorem Vw.lst {v : V} {ds : List D} (h : Vw ε φ H v (.lst ds)) : ∃ a vs, v = .ref a ∧ RdL ε.K H a vs ∧ EncL ε φ H vs ds := by
  rcases h with h | ⟨a, vs, es, e, hv, hs, hl⟩
  · cases h with | lst q r => exact ⟨_, _, rfl, q.rd, r⟩
  · cases e; exact ⟨a, vs, hv, hs, hl⟩
theorem Vw.tup {v : V} {ds : List D} (h : Vw ε φ H v (.tup ds)) : ∃ a vs, v = .ref a ∧ SqT ε.K H a vs ∧ EncL ε φ H vs ds := by
  rcases h with h | ⟨a, vs, es, e, hv, hs, hl⟩
  · cases h with | tup q r => exact ⟨_, _, rfl, q, r⟩
  · cases e
theorem Vw.int {v : V} {i : Int} (h : Vw ε φ H v (.int i)) : v = .int i := by
  rcases h with h | ⟨a, vs, es, e, hv, hs, hl⟩
  · cases h; rfl
  · cases e
theorem Vw.str {v : V} {i : Str} (h : Vw ε φ H v (.str i)) : v = .str i := by
  rcases h with h | ⟨a, vs, es, e, hv, hs, hl⟩
  · cases h; rfl
  · cases e
theorem Vw.bl {v : V} {i : Bool} (h : Vw ε φ H v (.bl i)) : v = .bl i := by
  rcases h with h | ⟨a, vs, es, e, hv, hs, hl⟩
  · cases h; rfl
  · cases e
theorem Vw.non {v : V} (h : Vw ε φ H v .non) : v = .non := by
  rcases h with h | ⟨a, vs, es, e, hv, hs, hl⟩
  · cases h; rfl
  · cases e
theorem Vw.ty {v : V} {n : String} (h : Vw ε φ H v (.ty n)) : v = .ty n := by
  rcases h with h | ⟨a, vs, es, e, hv, hs, hl⟩
  · cases h; rfl
  · cases e
theorem Vw.enc {v : V} {d : D} (h : Vw ε φ H v d) (n : ∀ ds, d ≠ .lst ds) : Enc ε φ H v d := by
  rcases h with h | ⟨a, vs, es, e, _⟩
  · exact h
  · exact absurd e (n es)

mutual
theorem Enc.dp : ∀ {d : D} {v : V} {p : PyData}, Enc ε φ H v d → d.py = some p → Dp ε.K H v p
  | .non, _, _, h, e => by cases h; simp [D.py] at e; subst e; exact .non
  | .bl _, _, _, h, e => by cases h; simp [D.py] at e; subst e; exact .bl _
  | .int _, _, _, h, e => by cases h; simp [D.py] at e; subst e; exact .int _
  | .str _, _, _, h, e => by cases h; simp [D.py] at e; subst e; exact .str _
  | .ty _, _, _, h, e => by simp [D.py] at e
  | .fn _, _, _, h, e => by simp [D.py] at e
  | .ref _, _, _, h, e => by simp [D.py] at e
  | .tup ds, _, _, h, e => by
    cases h with
    | tup q r =>
      simp only [D.py, Option.map_eq_some_iff] at e
      obtain ⟨ps, e, rfl⟩ := e
      exact .tup q (EncL.dp r e)
  | .lst ds, _, _, h, e => by
    cases h with
    | lst q r =>
      simp only [D.py, Option.map_eq_some_iff] at e
      obtain ⟨ps, e, rfl⟩ := e
      exact .lst q.rd.sq (EncL.dp r e)
theorem EncL.dp : ∀ {ds : List D} {vs : List V} {ps : List PyData}, EncL ε φ H vs ds → pyL ds = some ps → DpAll ε.K H vs ps
  | [], _, _, h, e => by cases h; simp [pyL] at e; subst e; exact .nil
  | d :: ds, _, _, h, e => by
    cases h with
    | cons q r =>
      simp only [pyL] at e
      split at e
      · rename_i x xs e1 e2
        cases e
        exact .cons (Enc.dp q e1) (EncL.dp r e2)
      · cases e
end
theorem Vw.dp {d : D} {v : V} {p : PyData} (h : Vw ε φ H v d) (e : d.py = some p) : Dp ε.K H v p := by
  rcases h with h | ⟨a, vs, ds, rfl, rfl, hs, hl⟩
  · exact h.dp e
  · simp only [D.py, Option.map_eq_some_iff] at e
    obtain ⟨ps, e, rfl⟩ := e
    exact .lst hs.sq (hl.dp e)
theorem Vw.flat {d : D} {v : V} (h : Vw ε φ H v d) (f : d.flat = true) : flatV v = true := by
  cases d <;> first | (simp [D.flat] at f; done) | skip
  · rw [h.non]; rfl
  · rw [h.bl]; rfl
  · rw [h.int]; rfl
  · rw [h.str]; rfl
theorem Enc.eqv {c d : D} {u v : V} (h : Enc ε φ H u c) (k : Enc ε φ H v d) (f : c.flat = true) (g : d.flat = true) : eqV u v = eqF c d := by
  cases c <;> first | (simp [D.flat] at f; done) | skip
  all_goals (cases d <;> first | (simp [D.flat] at g; done) | skip)
  all_goals (cases h; cases k; first | rfl | simp [eqV, eqF, b2i])
theorem EncL.flatAll : ∀ {ds : List D} {vs : List V}, EncL ε φ H vs ds → ds.all D.flat = true → vs.all flatV = true
  | [], _, h, f => by cases h; rfl
  | d :: ds, _, h, f => by
    cases h with
    | cons q r =>
      simp only [List.all_cons, Bool.and_eq_true] at f ⊢
      exact ⟨Vw.flat (.inl q) f.1, EncL.flatAll r f.2⟩
theorem EncL.anyEq {a : D} {x : V} (hx : Enc ε φ H x a) (fa : a.flat = true) : ∀ {ds : List D} {vs : List V}, EncL ε φ H vs ds → ds.all D.flat = true → inV x vs = ds.any fun z => eqF z a
  | [], _, h, f => by cases h; rfl
  | d :: ds, _, h, f => by
    cases h with
    | cons q r =>
      simp only [List.all_cons, Bool.and_eq_true] at f
      have ih := EncL.anyEq hx fa r f.2
      unfold inV at ih ⊢
      simp only [List.any_cons, ih, q.eqv hx f.1 fa]
end

/-- only new things -/
def Ex (H H' : Hp) : Prop := ∀ b o, H b = some o → H' b = some o
theorem Ex.refl {H : Hp} : Ex H H := fun _ _ q => q
theorem Ex.grow {H H' : Hp} (h : Ex H H') : Grow H H' := ⟨fun b xs q => h b _ q, fun b o u q => h b _ q⟩
theorem Ex.new {H : Hp} {p : Addr} {o : HO} (h : H p = none) : Ex H (upd H p o) := fun b u q => by
  rw [upd_ne (fun e => by rw [e, h] at q; cases q)]; exact q

/-- a list just made is left as it is from here on -/
theorem EP.frz {X : Cx} {pins : List (Addr × Obj)} {σ : L2.St} {Q : VK} {u : Value} {s : Shared}
    (h : EP X pins σ (fun v H => ∃ p ys, v = .ref p ∧ H p = some (.lst ys) ∧ ∀ o, Q v (upd H p (.frz o (.lst ys)))) u s) : EP X pins σ Q u s := by
  obtain ⟨v, H, I, r, p, ys, rfl, hp, q⟩ := h
  obtain ⟨od, I2⟩ := I.lock hp trivial
  exact ⟨_, _, I2, r, q od⟩
theorem frz_new {H : Hp} {p : Addr} {o : Obj} {u : HO} (h : H p = none) : Ex H (upd (upd H p u) p (.frz o u)) := by
  rw [upd_upd]; exact Ex.new h

/-! ### the operators, by plain data -/
section
variable {X : Cx} {ε : Ev}
/-- two operands -/
def rP2 (ε : Ev) (f : D → D → Option D) : R2 := fun x y H Q => ∃ φ c d z, Vw ε φ H x c ∧ Vw ε φ H y d ∧ f c d = some z ∧ ∀ v H', Ex H H' → Enc ε φ H' v z → Q v H'
theorem OpR.imp {f : Value → Value → Sem Value} {r r' : R2} (h : OpR X f r) (k : ∀ x y H Q, r' x y H Q → r x y H Q) : OpR X f r' :=
  fun pins s σ H x y v u Q I rx ry q => h pins s σ H x y v u Q I rx ry (k x y H Q q)
theorem CallR.imp {f : Value} {r r' : List V → Hp → VK → Prop} (h : CallR X f r) (k : ∀ xs H Q, r' xs H Q → r xs H Q) : CallR X f r' :=
  fun pins s σ H xs us Q I rx q => h pins s σ H xs us Q I rx (k xs H Q q)
theorem IxR.imp {r r' : R2} (h : IxR X r) (k : ∀ x y H Q, r' x y H Q → r x y H Q) : IxR X r' :=
  fun value slice pins s σ H x y v u Q I rx ry q => h value slice pins s σ H x y v u Q I rx ry (k x y H Q q)
/-- two lists, any -/
def rCatL (K : PySem.W.Frag) : R2 := fun x y H Q => ∃ l b xs zs, x = .ref l ∧ y = .ref b ∧ RdL K H l xs ∧ RdL K H b zs ∧ xs.length + zs.length ≤ sizeLine ∧ ∀ p, H p = none → Q (.ref p) (upd H p (.lst (xs ++ zs)))
theorem op_catL : OpR X (binaryOp .Add) (rCatL X.K) := by
  intro pins s σ H x y v u Q I rx ry h
  obtain ⟨l, b, xs, zs, rfl, rfl, hH, hB, hz, q⟩ := h
  cases rx
  cases ry
  obtain ⟨its, n, _, r, e⟩ := hH.at_ I
  obtain ⟨its2, n2, _, r2, e2⟩ := hB.at_ I
  have hl := r.length
  have hl2 := r2.length
  refine PySem.P.add_list e e2 ?_ (by rw [List.size_toArray, List.size_toArray]; omega)
  have ea : its.toArray ++ its2.toArray = (its ++ its2).toArray := by simp
  rw [ea]
  exact ⟨.ref _, _, I.lnew (t' := s.toks) (r.append r2) (by rw [List.length_append]; omega), rfl, q _ I.fresh⟩
/-- what is made by an operator that makes a list, left as it is -/
theorem OpR.frz {f : Value → Value → Sem Value} {r : R2} (h : OpR X f r) :
    OpR X f (fun x y H Q => r x y H (fun v H' => ∃ p ys, v = .ref p ∧ H' p = some (.lst ys) ∧ ∀ o, Q v (upd H' p (.frz o (.lst ys))))) :=
  fun pins s σ H x y v u Q I rx ry q => thn (h pins s σ H x y v u _ I rx ry q) fun _ _ e => EP.frz e



theorem op_addD (hK : ε.K = X.K) : OpR X (binaryOp .Add) (rP2 ε (binD .Add)) := by
  refine OpR.imp (op_add.or (op_add_str.or (op_catA.or (OpR.frz op_catL)))) fun x y H Q h => ?_
  obtain ⟨φ, c, d, z, hc, hd, e, q⟩ := h
  cases c <;> cases d <;> (first | (exfalso; simp [binD] at e; done) | skip)
  · simp only [binD, Option.some.injEq] at e
    subst e
    exact .inl ⟨_, _, hc.int, hd.int, q _ _ Ex.refl (.int _)⟩
  · rename_i x y
    simp only [binD] at e
    split at e
    · cases e
      exact .inr (.inl ⟨_, _, hc.str, hd.str, by assumption, q _ _ Ex.refl (.str _)⟩)
    · cases e
  · rename_i xs ys
    simp only [binD] at e
    split at e
    · cases e
      obtain ⟨a, vs, rfl, h1, h2⟩ := hc.tup
      obtain ⟨b, ws, rfl, k1, k2⟩ := hd.tup
      have l1 := h2.length
      have l2 := k2.length
      rw [hK] at h1 k1
      refine .inr (.inr (.inl ⟨a, b, vs, ws, rfl, rfl, h1, k1, by omega, fun z => ?_, fun _ z => ?_, fun _ _ p hp => ?_⟩))
      · subst z
        cases xs with
        | nil => exact q _ _ Ex.refl (.tup (by rw [hK]; exact k1) k2)
        | cons _ _ => simp at l1
      · subst z
        cases ys with
        | nil => rw [List.append_nil] at q; exact q _ _ Ex.refl (.tup (by rw [hK]; exact h1) h2)
        | cons _ _ => simp at l2
      · have g : Ex H (upd H p (.tup (vs ++ ws))) := Ex.new hp
        exact q _ _ g (.tup (SqT.of upd_same) (EncL.app (h2.grow g.grow) (k2.grow g.grow)))
    · cases e
  · rename_i xs ys
    simp only [binD] at e
    split at e
    · rename_i hz
      cases e
      obtain ⟨a, vs, rfl, h1, h2⟩ := hc.lst
      obtain ⟨b, ws, rfl, k1, k2⟩ := hd.lst
      have l1 := h2.length
      have l2 := k2.length
      refine .inr (.inr (.inr ⟨a, b, vs, ws, rfl, rfl, hK ▸ h1, hK ▸ k1, by omega, fun p hp => ⟨p, _, rfl, upd_same, fun o => ?_⟩⟩))
      have g : Ex H (upd (upd H p (.lst (vs ++ ws))) p (.frz o (.lst (vs ++ ws)))) := frz_new hp
      exact q _ _ g (.lst (.inl ⟨o, upd_same⟩) (EncL.app (h2.grow g.grow) (k2.grow g.grow)))
    · cases e
theorem op_subD : OpR X (binaryOp .Sub) (rP2 ε (binD .Sub)) := by
  refine OpR.imp op_sub fun x y H Q h => ?_
  obtain ⟨φ, c, d, z, hc, hd, e, q⟩ := h
  cases c <;> cases d <;> (first | (exfalso; simp [binD] at e; done) | skip)
  simp only [binD, Option.some.injEq] at e
  subst e
  exact ⟨_, _, hc.int, hd.int, q _ _ Ex.refl (.int _)⟩
theorem op_mulD : OpR X (binaryOp .Mult) (rP2 ε (binD .Mult)) := by
  refine OpR.imp op_mul fun x y H Q h => ?_
  obtain ⟨φ, c, d, z, hc, hd, e, q⟩ := h
  cases c <;> cases d <;> (first | (exfalso; simp [binD] at e; done) | skip)
  simp only [binD] at e
  split at e
  · cases e
    exact ⟨_, _, hc.int, hd.int, by assumption, q _ _ Ex.refl (.int _)⟩
  · cases e
theorem op_divD : OpR X (binaryOp .FloorDiv) (rP2 ε (binD .FloorDiv)) := by
  refine OpR.imp op_fdivN fun x y H Q h => ?_
  obtain ⟨φ, c, d, z, hc, hd, e, q⟩ := h
  cases c <;> cases d <;> (first | (exfalso; simp [binD] at e; done) | skip)
  simp only [binD] at e
  split at e
  · cases e
    exact ⟨_, _, hc.int, hd.int, by assumption, q _ _ Ex.refl (.int _)⟩
  · cases e
theorem op_modD : OpR X (binaryOp .Mod) (rP2 ε (binD .Mod)) := by
  refine OpR.imp op_modN fun x y H Q h => ?_
  obtain ⟨φ, c, d, z, hc, hd, e, q⟩ := h
  cases c <;> cases d <;> (first | (exfalso; simp [binD] at e; done) | skip)
  simp only [binD] at e
  split at e
  · cases e
    exact ⟨_, _, hc.int, hd.int, by assumption, q _ _ Ex.refl (.int _)⟩
  · cases e
theorem op_powD : OpR X (binaryOp .Pow) (rP2 ε (binD .Pow)) := by
  refine OpR.imp op_pow fun x y H Q h => ?_
  obtain ⟨φ, c, d, z, hc, hd, e, q⟩ := h
  cases c <;> cases d <;> (first | (exfalso; simp [binD] at e; done) | skip)
  simp only [binD] at e
  split at e
  · cases e
    exact ⟨_, _, hc.int, hd.int, by assumption, q _ _ Ex.refl (.int _)⟩
  · cases e
theorem op_binD (hK : ε.K = X.K) : ∀ op : Operator, OpR X (binaryOp op) (rP2 ε (binD op))
  | .Add => op_addD hK
  | .Sub => op_subD
  | .Mult => op_mulD
  | .FloorDiv => op_divD
  | .Mod => op_modD
  | .Pow => op_powD
  | .MatMult | .Div | .LShift | .RShift | .BitOr | .BitXor | .BitAnd => fun pins s σ H x y v u Q I rx ry h => by
    obtain ⟨φ, c, d, z, hc, hd, e, q⟩ := h
    cases c <;> cases d <;> simp [binD] at e

theorem eqD_cases {a b : D} {k : Bool} (h : eqD a b = some k) : (a.flat = true ∧ b.flat = true ∧ k = eqF a b) ∨ ∃ x y, a.py = some x ∧ b.py = some y ∧ SeqAt.shaped x = true ∧ SeqAt.shaped y = true ∧ k = PyData.eqv x y := by
  unfold eqD at h
  split at h
  · rename_i f
    simp only [Bool.and_eq_true] at f
    cases h
    exact .inl ⟨f.1, f.2, rfl⟩
  · split at h
    · rename_i x y e1 e2
      split at h
      · rename_i f
        simp only [Bool.and_eq_true] at f
        cases h
        exact .inr ⟨x, y, e1, e2, f.1, f.2, rfl⟩
      · cases h
    · cases h
/-- what flat things' == is, by the layer's two rules -/
theorem flat_eq {φ : List Addr} {H : Hp} {x y : V} {c d : D} (hc : Vw ε φ H x c) (hd : Vw ε φ H y d) (f : c.flat = true) (g : d.flat = true) :
    (scal x y = true ∧ decide (x = y) = eqF c d) ∨ ∃ p r, Dp ε.K H x p ∧ Dp ε.K H y r ∧ SeqAt.shaped p = true ∧ SeqAt.shaped r = true ∧ PyData.eqv p r = eqF c d := by
  have s1 : ∀ b : Bool, SeqAt.shaped (.bool b) = true := fun b => by cases b <;> decide
  have s2 : ∀ i : Int, SeqAt.shaped (.int i) = true := fun i => by simp [SeqAt.shaped, PyData.canLay0, PyData.depth]
  cases c <;> first | (simp [D.flat] at f; done) | skip
  all_goals (cases d <;> first | (simp [D.flat] at g; done) | skip)
  · rw [hc.non, hd.non]; exact .inl ⟨rfl, rfl⟩
  · rw [hc.non, hd.bl]; exact .inl ⟨rfl, rfl⟩
  · rw [hc.non, hd.int]; exact .inl ⟨rfl, rfl⟩
  · rw [hc.non, hd.str]; exact .inl ⟨rfl, rfl⟩
  · rw [hc.bl, hd.non]; exact .inl ⟨rfl, rfl⟩
  · rw [hc.bl, hd.bl]; exact .inl ⟨rfl, dec_bl⟩
  · rename_i b i
    rw [hc.bl, hd.int]
    exact .inr ⟨_, _, .bl b, .int i, s1 b, s2 i, rfl⟩
  · rw [hc.bl, hd.str]; exact .inl ⟨rfl, rfl⟩
  · rw [hc.int, hd.non]; exact .inl ⟨rfl, rfl⟩
  · rename_i i b
    rw [hc.int, hd.bl]
    exact .inr ⟨_, _, .int i, .bl b, s2 i, s1 b, rfl⟩
  · rw [hc.int, hd.int]; exact .inl ⟨rfl, dec_int⟩
  · rw [hc.int, hd.str]; exact .inl ⟨rfl, rfl⟩
  · rw [hc.str, hd.non]; exact .inl ⟨rfl, rfl⟩
  · rw [hc.str, hd.bl]; exact .inl ⟨rfl, rfl⟩
  · rw [hc.str, hd.int]; exact .inl ⟨rfl, rfl⟩
  · rw [hc.str, hd.str]; exact .inl ⟨rfl, dec_str⟩
theorem op_eqDD (hK : ε.K = X.K) (hu : X.A.units + 64 < cLine) : OpR X (compareOp .Eq) (rP2 ε (cmpD .Eq)) := by
  refine OpR.imp (op_eq.or (op_eqD hu)) fun x y H Q h => ?_
  obtain ⟨φ, c, d, z, hc, hd, e, q⟩ := h
  have e : (eqD c d).map D.bl = some z := by cases c <;> cases d <;> exact e
  simp only [Option.map_eq_some_iff] at e
  obtain ⟨k, e1, rfl⟩ := e
  have q := q _ _ Ex.refl (.bl k)
  rcases eqD_cases e1 with ⟨f, g, rfl⟩ | ⟨p, r, e2, e3, s1, s2, rfl⟩
  · rcases flat_eq hc hd f g with ⟨h1, h2⟩ | ⟨p, r, h1, h2, h3, h4, h5⟩
    · exact .inl ⟨h1, by rw [h2]; exact q⟩
    · exact .inr ⟨p, r, by rw [← hK]; exact h1, by rw [← hK]; exact h2, h3, h4, by rw [h5]; exact q⟩
  · exact .inr ⟨p, r, by rw [← hK]; exact hc.dp e2, by rw [← hK]; exact hd.dp e3, s1, s2, q⟩
theorem op_neDD (hK : ε.K = X.K) (hu : X.A.units + 64 < cLine) : OpR X (compareOp .NotEq) (rP2 ε (cmpD .NotEq)) := by
  refine OpR.imp (op_ne.or (op_neD hu)) fun x y H Q h => ?_
  obtain ⟨φ, c, d, z, hc, hd, e, q⟩ := h
  have e : (eqD c d).map (fun k => D.bl !k) = some z := by cases c <;> cases d <;> exact e
  simp only [Option.map_eq_some_iff] at e
  obtain ⟨k, e1, rfl⟩ := e
  have q := q _ _ Ex.refl (.bl !k)
  rcases eqD_cases e1 with ⟨f, g, rfl⟩ | ⟨p, r, e2, e3, s1, s2, rfl⟩
  · rcases flat_eq hc hd f g with ⟨h1, h2⟩ | ⟨p, r, h1, h2, h3, h4, h5⟩
    · exact .inl ⟨h1, by rw [h2]; exact q⟩
    · exact .inr ⟨p, r, by rw [← hK]; exact h1, by rw [← hK]; exact h2, h3, h4, by rw [h5]; exact q⟩
  · exact .inr ⟨p, r, by rw [← hK]; exact hc.dp e2, by rw [← hK]; exact hd.dp e3, s1, s2, q⟩
theorem inD_cases {a : D} {ds : List D} {k : Bool} (h : inD a ds = some k) : (a.flat = true ∧ ds.all D.flat = true ∧ k = ds.any fun z => eqF z a) ∨
    ∃ x xs, a.py = some x ∧ pyL ds = some xs ∧ SeqAt.shaped x = true ∧ SeqAt.shaped (.list xs) = true ∧ k = xs.any fun z => PyData.eqv z x := by
  unfold inD at h
  split at h
  · rename_i f
    simp only [Bool.and_eq_true] at f
    cases h
    exact .inl ⟨f.1, f.2, rfl⟩
  · split at h
    · rename_i x y e1 e2
      split at h
      · rename_i f
        simp only [Bool.and_eq_true] at f
        cases h
        exact .inr ⟨x, y, e1, e2, f.1, f.2, rfl⟩
      · cases h
    · cases h

/-- in, not in a list or tuple, any data -/
def rInA (K : PySem.W.Frag) (neg : Bool) : R2 := fun x y H Q => ∃ d ds, Dp K H x d ∧ (Dp K H y (.list ds) ∨ Dp K H y (.tuple ds)) ∧ SeqAt.shaped d = true ∧ SeqAt.shaped (.list ds) = true ∧ Q (.bl (if neg then !(ds.any fun z => PyData.eqv z d) else ds.any fun z => PyData.eqv z d)) H
theorem op_inA (hu : X.A.units + 65 < cLine) : OpR X (compareOp .In) (rInA X.K false) := by
  intro pins s σ H x y v u Q I rx ry h
  obtain ⟨d, ds, hd, he, sd, se, q⟩ := h
  obtain ⟨as, r1⟩ := Dp.reads I d x v hd rx
  have lay : PyData.canLayAll0 ds = true := by
    have z := SeqAt.canLay_of_shaped se
    simpa [PyData.canLay0] using z
  rcases he with he | he
  · obtain ⟨bs, r2⟩ := Dp.reads I _ y u he ry
    exact SeqAt.in_list_reads r2 r1 lay (SeqAt.canLay_of_shaped sd) (room_in_shaped sd hu) ⟨.bl _, H, I, rfl, q⟩
  · obtain ⟨bs, r2⟩ := Dp.reads I _ y u he ry
    exact SeqAt.in_tuple_reads r2 r1 lay (SeqAt.canLay_of_shaped sd) (room_in_shaped sd hu) ⟨.bl _, H, I, rfl, q⟩
theorem op_notInA (hu : X.A.units + 65 < cLine) : OpR X (compareOp .NotIn) (rInA X.K true) := by
  intro pins s σ H x y v u Q I rx ry h
  obtain ⟨d, ds, hd, he, sd, se, q⟩ := h
  obtain ⟨as, r1⟩ := Dp.reads I d x v hd rx
  have lay : PyData.canLayAll0 ds = true := by
    have z := SeqAt.canLay_of_shaped se
    simpa [PyData.canLay0] using z
  rcases he with he | he
  · obtain ⟨bs, r2⟩ := Dp.reads I _ y u he ry
    exact SeqAt.notIn_list_reads r2 r1 lay (SeqAt.canLay_of_shaped sd) (room_in_shaped sd hu) ⟨.bl _, H, I, rfl, q⟩
  · obtain ⟨bs, r2⟩ := Dp.reads I _ y u he ry
    exact SeqAt.notIn_tuple_reads r2 r1 lay (SeqAt.canLay_of_shaped sd) (room_in_shaped sd hu) ⟨.bl _, H, I, rfl, q⟩
/-- a sequence to look in -/
theorem Vw.seq {φ : List Addr} {H : Hp} {v : V} {d : D} {ds : List D} (h : Vw ε φ H v d) (e : d = .tup ds ∨ d = .lst ds) :
    ∃ a vs, v = .ref a ∧ (SqL ε.K H a vs ∨ SqT ε.K H a vs) ∧ EncL ε φ H vs ds ∧ ∀ ps, pyL ds = some ps → Dp ε.K H v (.list ps) ∨ Dp ε.K H v (.tuple ps) := by
  rcases e with rfl | rfl
  · obtain ⟨a, vs, rfl, h1, h2⟩ := h.tup
    exact ⟨a, vs, rfl, .inr h1, h2, fun ps e => .inr (.tup h1 (h2.dp e))⟩
  · obtain ⟨a, vs, rfl, h1, h2⟩ := h.lst
    exact ⟨a, vs, rfl, .inl h1.sq, h2, fun ps e => .inl (.lst h1.sq (h2.dp e))⟩
theorem in_read (hK : ε.K = X.K) {φ : List Addr} {H : Hp} {x y : V} {c d : D} {ds : List D} {k neg : Bool} {Q : VK} (hc : Vw ε φ H x c) (hd : Vw ε φ H y d) (e : d = .tup ds ∨ d = .lst ds) (ei : inD c ds = some k)
    (q : Q (.bl (if neg then !k else k)) H) : rIn X.K neg x y H Q ∨ rInA X.K neg x y H Q := by
  obtain ⟨a, vs, rfl, h1, h2, h3⟩ := hd.seq e
  rcases inD_cases ei with ⟨f, g, rfl⟩ | ⟨p, ps, e1, e2, s1, s2, rfl⟩
  · have hx : Enc ε φ H x c := hc.enc (fun es z => by rw [z] at f; simp [D.flat] at f)
    refine .inl ⟨a, vs, rfl, by rw [← hK]; exact h1, hc.flat f, h2.flatAll g, ?_⟩
    rw [h2.anyEq hx f g]
    exact q
  · exact .inr ⟨p, ps, by rw [← hK]; exact hc.dp e1, by rw [← hK]; exact h3 ps e2, s1, s2, q⟩
theorem op_inDD (hK : ε.K = X.K) (hu : X.A.units + 65 < cLine) : OpR X (compareOp .In) (rP2 ε (cmpD .In)) := by
  refine OpR.imp (op_in_seq.or ((op_inA hu).or op_in_str)) fun x y H Q h => ?_
  obtain ⟨φ, c, d, z, hc, hd, e, q⟩ := h
  have key : ∀ ds, d = .tup ds ∨ d = .lst ds → (inD c ds).map D.bl = some z → rIn X.K false x y H Q ∨ rInA X.K false x y H Q := fun ds ed ei => by
    simp only [Option.map_eq_some_iff] at ei
    obtain ⟨k, e1, rfl⟩ := ei
    exact in_read hK hc hd ed e1 (q _ _ Ex.refl (.bl k))
  cases d with
  | tup ds =>
    have e : (inD c ds).map D.bl = some z := by cases c <;> exact e
    exact (key ds (.inl rfl) e).imp id .inl
  | lst ds =>
    have e : (inD c ds).map D.bl = some z := by cases c <;> exact e
    exact (key ds (.inr rfl) e).imp id .inl
  | str w =>
    cases c <;> (first | (exfalso; simp [cmpD] at e; done) | skip)
    simp only [cmpD, Option.some.injEq] at e
    subst e
    exact .inr (.inr ⟨_, _, hc.str, hd.str, q _ _ Ex.refl (.bl _)⟩)
  | _ => exfalso; cases c <;> simp [cmpD] at e
theorem op_notInDD (hK : ε.K = X.K) (hu : X.A.units + 65 < cLine) : OpR X (compareOp .NotIn) (rP2 ε (cmpD .NotIn)) := by
  refine OpR.imp (op_notIn_seq.or ((op_notInA hu).or L2.op_notIn_str)) fun x y H Q h => ?_
  obtain ⟨φ, c, d, z, hc, hd, e, q⟩ := h
  have key : ∀ ds, d = .tup ds ∨ d = .lst ds → (inD c ds).map (fun k => D.bl !k) = some z → rIn X.K true x y H Q ∨ rInA X.K true x y H Q := fun ds ed ei => by
    simp only [Option.map_eq_some_iff] at ei
    obtain ⟨k, e1, rfl⟩ := ei
    exact in_read hK hc hd ed e1 (q _ _ Ex.refl (.bl _))
  cases d with
  | tup ds =>
    have e : (inD c ds).map (fun k => D.bl !k) = some z := by cases c <;> exact e
    exact (key ds (.inl rfl) e).imp id .inl
  | lst ds =>
    have e : (inD c ds).map (fun k => D.bl !k) = some z := by cases c <;> exact e
    exact (key ds (.inr rfl) e).imp id .inl
  | str w =>
    cases c <;> (first | (exfalso; simp [cmpD] at e; done) | skip)
    simp only [cmpD, Option.some.injEq] at e
    subst e
    exact .inr (.inr ⟨_, _, hc.str, hd.str, q _ _ Ex.refl (.bl _)⟩)
  | _ => exfalso; cases c <;> simp [cmpD] at e
theorem intsD_ok {φ : List Addr} {H : Hp} : ∀ {ds : List D} {vs : List V} {ns : List Int}, EncL ε φ H vs ds → intsD ds = some ns → vs = ns.map V.int
  | [], _, _, h, e => by cases h; simp [intsD] at e; subst e; rfl
  | d :: ds, _, _, h, e => by
    cases h with
    | cons q r =>
      cases d <;> (first | (exfalso; simp [intsD] at e; done) | skip)
      simp only [intsD, Option.map_eq_some_iff] at e
      obtain ⟨ms, e, rfl⟩ := e
      cases q
      rw [intsD_ok r e]; rfl
theorem boolsD_ok {φ : List Addr} {H : Hp} : ∀ {ds : List D} {vs : List V} {ns : List Bool}, EncL ε φ H vs ds → boolsD ds = some ns → vs = ns.map V.bl
  | [], _, _, h, e => by cases h; simp [boolsD] at e; subst e; rfl
  | d :: ds, _, _, h, e => by
    cases h with
    | cons q r =>
      cases d <;> (first | (exfalso; simp [boolsD] at e; done) | skip)
      simp only [boolsD, Option.map_eq_some_iff] at e
      obtain ⟨ms, e, rfl⟩ := e
      cases q
      rw [boolsD_ok r e]; rfl
theorem op_ltDD (hK : ε.K = X.K) (hu : X.A.units < cLine) : OpR X (compareOp .Lt) (rP2 ε (cmpD .Lt)) := by
  refine OpR.imp (op_lt.or (op_lt_str.or (op_ltT hu))) fun x y H Q h => ?_
  obtain ⟨φ, c, d, z, hc, hd, e, q⟩ := h
  cases c <;> cases d <;> (first | (exfalso; simp [cmpD] at e; done) | skip)
  · simp only [cmpD, Option.some.injEq] at e
    subst e
    exact .inl ⟨_, _, hc.int, hd.int, q _ _ Ex.refl (.bl _)⟩
  · simp only [cmpD, Option.some.injEq] at e
    subst e
    exact .inr (.inl ⟨_, _, hc.str, hd.str, q _ _ Ex.refl (.bl _)⟩)
  · simp only [cmpD] at e
    split at e
    · rename_i ns ms e1 e2
      cases e
      obtain ⟨a, vs, rfl, h1, h2⟩ := hc.tup
      obtain ⟨b, ws, rfl, k1, k2⟩ := hd.tup
      rw [intsD_ok h2 e1, hK] at h1
      rw [intsD_ok k2 e2, hK] at k1
      exact .inr (.inr ⟨a, b, ns, ms, rfl, rfl, h1, k1, q _ _ Ex.refl (.bl _)⟩)
    · cases e
theorem op_leDD : OpR X (compareOp .LtE) (rP2 ε (cmpD .LtE)) := by
  refine OpR.imp (op_le.or op_le_str) fun x y H Q h => ?_
  obtain ⟨φ, c, d, z, hc, hd, e, q⟩ := h
  cases c <;> cases d <;> (first | (exfalso; simp [cmpD] at e; done) | skip)
  · simp only [cmpD, Option.some.injEq] at e
    subst e
    exact .inl ⟨_, _, hc.int, hd.int, q _ _ Ex.refl (.bl _)⟩
  · simp only [cmpD, Option.some.injEq] at e
    subst e
    exact .inr ⟨_, _, hc.str, hd.str, q _ _ Ex.refl (.bl _)⟩
theorem op_gtDD : OpR X (compareOp .Gt) (rP2 ε (cmpD .Gt)) := by
  refine OpR.imp op_gt fun x y H Q h => ?_
  obtain ⟨φ, c, d, z, hc, hd, e, q⟩ := h
  cases c <;> cases d <;> (first | (exfalso; simp [cmpD] at e; done) | skip)
  simp only [cmpD, Option.some.injEq] at e
  subst e
  exact ⟨_, _, hc.int, hd.int, q _ _ Ex.refl (.bl _)⟩
theorem op_geDD : OpR X (compareOp .GtE) (rP2 ε (cmpD .GtE)) := by
  refine OpR.imp op_ge fun x y H Q h => ?_
  obtain ⟨φ, c, d, z, hc, hd, e, q⟩ := h
  cases c <;> cases d <;> (first | (exfalso; simp [cmpD] at e; done) | skip)
  simp only [cmpD, Option.some.injEq] at e
  subst e
  exact ⟨_, _, hc.int, hd.int, q _ _ Ex.refl (.bl _)⟩
theorem Vw.isNon {φ : List Addr} {H : Hp} {x : V} {c : D} (h : Vw ε φ H x c) : decide (x = .non) = (match c with | .non => true | _ => false) := by
  rcases h with h | ⟨a, vs, ds, rfl, rfl, _⟩
  · cases h <;> rfl
  · rfl
theorem op_isDD : OpR X (compareOp .Is) (rP2 ε (cmpD .Is)) := by
  refine OpR.imp op_isN fun x y H Q h => ?_
  obtain ⟨φ, c, d, z, hc, hd, e, q⟩ := h
  cases d <;> (first | (exfalso; cases c <;> simp [cmpD] at e; done) | skip)
  refine ⟨hd.non, ?_⟩
  rw [hc.isNon]
  cases c <;> (simp only [cmpD, Option.some.injEq] at e; subst e; exact q _ _ Ex.refl (.bl _))
theorem op_isNotDD : OpR X (compareOp .IsNot) (rP2 ε (cmpD .IsNot)) := by
  refine OpR.imp op_notN fun x y H Q h => ?_
  obtain ⟨φ, c, d, z, hc, hd, e, q⟩ := h
  cases d <;> (first | (exfalso; cases c <;> simp [cmpD] at e; done) | skip)
  refine ⟨hd.non, ?_⟩
  rw [hc.isNon]
  cases c <;> (simp only [cmpD, Option.some.injEq] at e; subst e; exact q _ _ Ex.refl (.bl _))
theorem op_cmpD (hK : ε.K = X.K) (hu : X.A.units + 65 < cLine) : ∀ op : CmpOp, OpR X (compareOp op) (rP2 ε (cmpD op))
  | .Eq => op_eqDD hK (by omega)
  | .NotEq => op_neDD hK (by omega)
  | .Lt => op_ltDD hK (by omega)
  | .LtE => op_leDD
  | .Gt => op_gtDD
  | .GtE => op_geDD
  | .Is => op_isDD
  | .IsNot => op_isNotDD
  | .In => op_inDD hK hu
  | .NotIn => op_notInDD hK hu

/-! ### items, the built-in functions -/
theorem Enc.atI {φ : List Addr} {H : Hp} {vs : List V} {ds : List D} {i : Int} {d : D} (h : EncL ε φ H vs ds) (e : L2.atI ds i = some d) : ∃ v, L2.atI vs i = some v ∧ Enc ε φ H v d := by
  unfold L2.atI at e ⊢
  rw [h.length]
  cases ej : ixN ds.length i with
  | none => rw [ej] at e; cases e
  | some j =>
    rw [ej] at e
    obtain ⟨v, h1, h2⟩ := h.get (show ds[j]? = some d from e)
    exact ⟨v, h1, h2⟩
theorem ix_DD (hK : ε.K = X.K) : IxR X (rP2 ε ixD) := by
  refine IxR.imp ix_seq fun x y H Q h => ?_
  obtain ⟨φ, c, d, z, hc, hd, e, q⟩ := h
  cases c <;> cases d <;> (first | (exfalso; simp [ixD] at e; done) | skip)
  · simp only [ixD] at e
    split at e
    · rename_i hz
      simp only [Option.map_eq_some_iff] at e
      obtain ⟨k, e, rfl⟩ := e
      exact .inr (.inr ⟨_, _, k, hc.str, hd.int, hz, e, q _ _ Ex.refl (.str _)⟩)
    · cases e
  · simp only [ixD] at e
    obtain ⟨a, vs, rfl, h1, h2⟩ := hc.tup
    obtain ⟨v, e1, e2⟩ := Enc.atI h2 e
    exact .inr (.inl ⟨a, vs, _, v, rfl, hd.int, by rw [← hK]; exact h1, e1, q _ _ Ex.refl e2⟩)
  · simp only [ixD] at e
    obtain ⟨a, vs, rfl, h1, h2⟩ := hc.lst
    obtain ⟨v, e1, e2⟩ := Enc.atI h2 e
    exact .inl ⟨a, vs, _, v, rfl, hd.int, hK ▸ h1.sq, e1, q _ _ Ex.refl e2⟩
/-- operands -/
def rPL (ε : Ev) (p : P) : List V → Hp → VK → Prop := fun xs H Q => ∃ φ ds z, VwL ε φ H xs ds ∧ primD p ds = some z ∧ ∀ v H', Ex H H' → Enc ε φ H' v z → Q v H'
theorem VwL.one {φ : List Addr} {H : Hp} {xs : List V} {d : D} (h : VwL ε φ H xs [d]) : ∃ x, xs = [x] ∧ Vw ε φ H x d := by
  cases h with | cons q r => cases r; exact ⟨_, rfl, q⟩
theorem VwL.two {φ : List Addr} {H : Hp} {xs : List V} {c d : D} (h : VwL ε φ H xs [c, d]) : ∃ x y, xs = [x, y] ∧ Vw ε φ H x c ∧ Vw ε φ H y d := by
  cases h with | cons q r => cases r with | cons q2 r => cases r; exact ⟨_, _, rfl, q, q2⟩

section inv
variable {ds : List D} {z : D}
theorem inv_neg (e : primD .neg ds = some z) : ∃ i, ds = [.int i] ∧ z = .int (-i) := by
  rcases ds with _ | ⟨d, _ | _⟩ <;> (try cases d) <;> (first | (simp [primD] at e; done) | skip)
  cases e; exact ⟨_, rfl, rfl⟩
theorem inv_len (e : primD .len ds = some z) : (∃ es, ds = [.tup es] ∧ z = .int es.length) ∨ (∃ es, ds = [.lst es] ∧ z = .int es.length) ∨ ∃ x, ds = [.str x] ∧ x.length ≤ sizeLine ∧ z = .int x.length := by
  rcases ds with _ | ⟨d, _ | _⟩ <;> (try cases d) <;> (first | (simp [primD] at e; done) | skip)
  · simp only [primD] at e
    split at e
    · cases e; exact .inr (.inr ⟨_, rfl, by assumption, rfl⟩)
    · cases e
  · cases e; exact .inl ⟨_, rfl, rfl⟩
  · cases e; exact .inr (.inl ⟨_, rfl, rfl⟩)
theorem inv_abs (e : primD .abs ds = some z) : ∃ i, ds = [.int i] ∧ z = .int (if i < 0 then -i else i) := by
  rcases ds with _ | ⟨d, _ | _⟩ <;> (try cases d) <;> (first | (simp [primD] at e; done) | skip)
  cases e; exact ⟨_, rfl, rfl⟩
theorem inv_int (e : primD .int ds = some z) : (∃ i, ds = [.int i] ∧ z = .int i) ∨ ∃ b, ds = [.bl b] ∧ z = .int (if b then 1 else 0) := by
  rcases ds with _ | ⟨d, _ | _⟩ <;> (try cases d) <;> (first | (simp [primD] at e; done) | skip)
  · cases e; exact .inr ⟨_, rfl, rfl⟩
  · cases e; exact .inl ⟨_, rfl, rfl⟩
theorem inv_ord (e : primD .ord ds = some z) : ∃ i, ds = [.str i] ∧ i.length = 1 ∧ z = .int (i.cps.getD 0 0 : Nat) := by
  rcases ds with _ | ⟨d, _ | _⟩ <;> (try cases d) <;> (first | (simp [primD] at e; done) | skip)
  simp only [primD] at e
  split at e
  · cases e; exact ⟨_, rfl, by assumption, rfl⟩
  · cases e
theorem inv_min (e : primD .min ds = some z) : ∃ i j, ds = [.int i, .int j] ∧ z = .int (if j < i then j else i) := by
  rcases ds with _ | ⟨d, _ | ⟨d2, _ | _⟩⟩ <;> (try cases d) <;> (try cases d2) <;> (first | (simp [primD] at e; done) | skip)
  cases e; exact ⟨_, _, rfl, rfl⟩
theorem inv_max (e : primD .max ds = some z) : ∃ i j, ds = [.int i, .int j] ∧ z = .int (if j > i then j else i) := by
  rcases ds with _ | ⟨d, _ | ⟨d2, _ | _⟩⟩ <;> (try cases d) <;> (try cases d2) <;> (first | (simp [primD] at e; done) | skip)
  cases e; exact ⟨_, _, rfl, rfl⟩
theorem inv_all (e : primD .all ds = some z) : ∃ es bs, ds = [.lst es] ∧ boolsD es = some bs ∧ z = .bl (bs.all id) := by
  rcases ds with _ | ⟨d, _ | _⟩ <;> (try cases d) <;> (first | (simp [primD] at e; done) | skip)
  simp only [primD, Option.map_eq_some_iff] at e
  obtain ⟨bs, e1, rfl⟩ := e
  exact ⟨_, bs, rfl, e1, rfl⟩
theorem inv_any (e : primD .any ds = some z) : ∃ es bs, ds = [.lst es] ∧ boolsD es = some bs ∧ z = .bl (bs.any id) := by
  rcases ds with _ | ⟨d, _ | _⟩ <;> (try cases d) <;> (first | (simp [primD] at e; done) | skip)
  simp only [primD, Option.map_eq_some_iff] at e
  obtain ⟨bs, e1, rfl⟩ := e
  exact ⟨_, bs, rfl, e1, rfl⟩
theorem inv_sum (e : primD .sum ds = some z) : ∃ es bs, ds = [.lst es] ∧ intsD es = some bs ∧ z = .int bs.sum := by
  rcases ds with _ | ⟨d, _ | _⟩ <;> (try cases d) <;> (first | (simp [primD] at e; done) | skip)
  simp only [primD, Option.map_eq_some_iff] at e
  obtain ⟨bs, e1, rfl⟩ := e
  exact ⟨_, bs, rfl, e1, rfl⟩
theorem inv_tuple (e : primD .tuple ds = some z) : ∃ es, (ds = [.lst es] ∨ ds = [.tup es]) ∧ z = .tup es := by
  rcases ds with _ | ⟨d, _ | _⟩ <;> (try cases d) <;> (first | (simp [primD] at e; done) | skip)
  · cases e; exact ⟨_, .inr rfl, rfl⟩
  · cases e; exact ⟨_, .inl rfl, rfl⟩
theorem inv_isi (e : primD .isi ds = some z) : ∃ c T b, ds = [c, .ty T] ∧ isiD c T = some b ∧ z = .bl b := by
  rcases ds with _ | ⟨d, _ | ⟨d2, _ | _⟩⟩ <;> (try cases d2) <;> (first | (simp [primD] at e; done) | skip)
  simp only [primD, Option.map_eq_some_iff] at e
  obtain ⟨bs, e1, rfl⟩ := e
  exact ⟨_, _, bs, rfl, e1, rfl⟩
theorem inv_repr (e : primD .repr ds = some z) : ∃ c x, ds = [c] ∧ reprD c = some x ∧ z = .str x := by
  rcases ds with _ | ⟨d, _ | _⟩ <;> (first | (simp [primD] at e; done) | skip)
  simp only [primD, Option.map_eq_some_iff] at e
  obtain ⟨bs, e1, rfl⟩ := e
  exact ⟨_, bs, rfl, e1, rfl⟩
end inv
theorem un_negD : UnR X (unaryOp .USub) (fun x H Q => rPL ε .neg [x] H Q) := by
  intro pins s σ H x v Q I rx h
  obtain ⟨φ, ds, z, hs, e, q⟩ := h
  have inv := inv_neg e
  obtain ⟨i, rfl, rfl⟩ := inv
  obtain ⟨y, ey, hy⟩ := hs.one
  cases ey
  exact un_neg pins s σ H x v Q I rx ⟨i, hy.int, q _ _ Ex.refl (.int _)⟩
theorem call_lenD (hK : ε.K = X.K) : CallR X (.builtin "len") (rPL ε .len) := by
  refine CallR.imp call_len fun xs H Q h => ?_
  obtain ⟨φ, ds, z, hs, e, q⟩ := h
  have inv := inv_len e
  rcases inv with ⟨es, rfl, rfl⟩ | ⟨es, rfl, rfl⟩ | ⟨y, rfl, hz, rfl⟩
  · obtain ⟨x, rfl, hx⟩ := hs.one
    obtain ⟨a, vs, rfl, h1, h2⟩ := hx.tup
    exact ⟨_, es.length, rfl, .inr ⟨vs, by rw [← hK]; exact h1, h2.length.symm⟩, q _ _ Ex.refl (.int _)⟩
  · obtain ⟨x, rfl, hx⟩ := hs.one
    obtain ⟨a, vs, rfl, h1, h2⟩ := hx.lst
    exact ⟨_, es.length, rfl, .inl ⟨vs, hK ▸ h1.sq, h2.length.symm⟩, q _ _ Ex.refl (.int _)⟩
  · obtain ⟨x, rfl, hx⟩ := hs.one
    rw [hx.str]
    exact ⟨_, y.length, rfl, ⟨hz, rfl⟩, q _ _ Ex.refl (.int _)⟩
theorem call_absD : CallR X (.builtin "abs") (rPL ε .abs) := by
  refine CallR.imp call_abs fun xs H Q h => ?_
  obtain ⟨φ, ds, z, hs, e, q⟩ := h
  have inv := inv_abs e
  obtain ⟨i, rfl, rfl⟩ := inv
  obtain ⟨x, rfl, hx⟩ := hs.one
  rw [hx.int]
  exact ⟨i, rfl, q _ _ Ex.refl (.int _)⟩
theorem call_intD : CallR X (.type "int") (rPL ε .int) := by
  refine CallR.imp call_int1 fun xs H Q h => ?_
  obtain ⟨φ, ds, z, hs, e, q⟩ := h
  have inv := inv_int e
  rcases inv with ⟨i, rfl, rfl⟩ | ⟨i, rfl, rfl⟩
  · obtain ⟨x, rfl, hx⟩ := hs.one
    rw [hx.int]
    exact .inl ⟨i, rfl, q _ _ Ex.refl (.int _)⟩
  · obtain ⟨x, rfl, hx⟩ := hs.one
    rw [hx.bl]
    exact .inr ⟨i, rfl, q _ _ Ex.refl (.int _)⟩
theorem call_ordD : CallR X (.builtin "ord") (rPL ε .ord) := by
  refine CallR.imp call_ord fun xs H Q h => ?_
  obtain ⟨φ, ds, z, hs, e, q⟩ := h
  have inv := inv_ord e
  obtain ⟨i, rfl, hz, rfl⟩ := inv
  obtain ⟨x, rfl, hx⟩ := hs.one
  rw [hx.str]
  exact ⟨i, rfl, hz, q _ _ Ex.refl (.int _)⟩
theorem call_min2D (hc : X.calm = true) : CallR X (.builtin "min") (rPL ε .min) := by
  refine CallR.imp (call_min2 hc) fun xs H Q h => ?_
  obtain ⟨φ, ds, z, hs, e, q⟩ := h
  have inv := inv_min e
  obtain ⟨i, j, rfl, rfl⟩ := inv
  obtain ⟨x, y, rfl, hx, hy⟩ := hs.two
  rw [hx.int, hy.int]
  exact ⟨i, j, rfl, q _ _ Ex.refl (.int _)⟩
theorem call_max2D (hc : X.calm = true) : CallR X (.builtin "max") (rPL ε .max) := by
  refine CallR.imp (call_max2 hc) fun xs H Q h => ?_
  obtain ⟨φ, ds, z, hs, e, q⟩ := h
  have inv := inv_max e
  obtain ⟨i, j, rfl, rfl⟩ := inv
  obtain ⟨x, y, rfl, hx, hy⟩ := hs.two
  rw [hx.int, hy.int]
  exact ⟨i, j, rfl, q _ _ Ex.refl (.int _)⟩
theorem call_allD (hK : ε.K = X.K) (hc : X.calm = true) : CallR X (.builtin "all") (rPL ε .all) := by
  refine CallR.imp (cr_all hc) fun xs H Q h => ?_
  obtain ⟨φ, ds, z, hs, e, q⟩ := h
  have inv := inv_all e
  obtain ⟨es, bs, rfl, eb, rfl⟩ := inv
  obtain ⟨x, rfl, hx⟩ := hs.one
  obtain ⟨a, vs, rfl, h1, h2⟩ := hx.lst
  rw [boolsD_ok h2 eb] at h1
  exact ⟨a, bs, rfl, hK ▸ h1.sq, q _ _ Ex.refl (.bl _)⟩
theorem call_anyD (hK : ε.K = X.K) (hc : X.calm = true) : CallR X (.builtin "any") (rPL ε .any) := by
  refine CallR.imp (cr_any hc) fun xs H Q h => ?_
  obtain ⟨φ, ds, z, hs, e, q⟩ := h
  have inv := inv_any e
  obtain ⟨es, bs, rfl, eb, rfl⟩ := inv
  obtain ⟨x, rfl, hx⟩ := hs.one
  obtain ⟨a, vs, rfl, h1, h2⟩ := hx.lst
  rw [boolsD_ok h2 eb] at h1
  exact ⟨a, bs, rfl, hK ▸ h1.sq, q _ _ Ex.refl (.bl _)⟩
theorem call_sumD (hK : ε.K = X.K) (hc : X.calm = true) : CallR X (.builtin "sum") (rPL ε .sum) := by
  refine CallR.imp (cr_sum hc) fun xs H Q h => ?_
  obtain ⟨φ, ds, z, hs, e, q⟩ := h
  have inv := inv_sum e
  obtain ⟨es, bs, rfl, eb, rfl⟩ := inv
  obtain ⟨x, rfl, hx⟩ := hs.one
  obtain ⟨a, vs, rfl, h1, h2⟩ := hx.lst
  rw [intsD_ok h2 eb] at h1
  exact ⟨a, bs, rfl, hK ▸ h1.sq, q _ _ Ex.refl (.int _)⟩
theorem call_tupleD (hK : ε.K = X.K) : CallR X (.type "tuple") (rPL ε .tuple) := by
  refine CallR.imp call_tuple_of fun xs H Q h => ?_
  obtain ⟨φ, ds, z, hs, e, q⟩ := h
  have inv := inv_tuple e
  obtain ⟨es, hd | hd, rfl⟩ := inv
  · subst hd
    obtain ⟨x, rfl, hx⟩ := hs.one
    obtain ⟨a, vs, rfl, h1, h2⟩ := hx.lst
    refine ⟨a, vs, rfl, .inl ⟨hK ▸ h1.sq, fun l hl => ?_⟩⟩
    have g : Ex H (upd H l (.tup vs)) := Ex.new hl
    exact q _ _ g (.tup (SqT.of upd_same) (h2.grow g.grow))
  · subst hd
    obtain ⟨x, rfl, hx⟩ := hs.one
    obtain ⟨a, vs, rfl, h1, h2⟩ := hx.tup
    exact ⟨a, vs, rfl, .inr ⟨by rw [← hK]; exact h1, q _ _ Ex.refl (.tup h1 h2)⟩⟩
/-- how isinstance sees it -/
theorem Vw.tyX {φ : List Addr} {H : Hp} {x : V} {c : D} {b : Bool} {T : String} (h : Vw ε φ H x c) (e : isiD c T = some b) : ∃ t, TyX ε.K H x t ∧ PySem.W.kitOne ε.K t (.type T) = some b := by
  have go : ∀ {n : String}, kitB n T = some b → PySem.W.kitOne ε.K (.type n) (.type T) = some b := fun h => kit_ty h
  have dec : ∃ n, kitB n T = some b ∧ tyN c = some n := by
    unfold isiD at e
    split at e
    · subst T; cases c <;> (first | (simp [tyN] at e; done) | skip) <;> (cases e; exact ⟨_, by decide +kernel, rfl⟩)
    · split at e
      · subst T; cases c <;> (first | (simp [tyN] at e; done) | skip) <;> (cases e; exact ⟨_, by decide +kernel, rfl⟩)
      · split at e
        · subst T; cases c <;> (first | (simp [tyN] at e; done) | skip) <;> (cases e; exact ⟨_, by decide +kernel, rfl⟩)
        · split at e
          · subst T; cases c <;> (first | (simp [tyN] at e; done) | skip) <;> (cases e; exact ⟨_, by decide +kernel, rfl⟩)
          · cases e
  obtain ⟨n, hn, hc⟩ := dec
  cases c <;> (first | (simp [tyN] at hc; done) | skip) <;> (simp only [tyN, Option.some.injEq] at hc; subst hc)
  case non => rw [h.non]; exact ⟨_, .base .non, go hn⟩
  case bl k => rw [h.bl]; exact ⟨_, .base (.bl k), go hn⟩
  case int k => rw [h.int]; exact ⟨_, .base (.int k), go hn⟩
  case str k => rw [h.str]; exact ⟨_, .base (.str k), go hn⟩
  case tup ds =>
    obtain ⟨a, vs, rfl, h1, h2⟩ := h.tup
    rcases h1 with (h1 | ⟨o, h1⟩) | ⟨o, its, m, h1, h3, _⟩
    · exact ⟨_, .base (.tup h1), go hn⟩
    · exact ⟨_, .fTuple h1, go hn⟩
    · exact ⟨_, .kTuple h1 h3, go hn⟩
  case lst ds =>
    obtain ⟨a, vs, rfl, h1, h2⟩ := h.lst
    rcases h1 with (h1 | ⟨o, h1⟩) | ⟨its, n, h1, _⟩
    · exact ⟨_, .base (.lst h1), go hn⟩
    · exact ⟨_, .base (.frz h1), go hn⟩
    · exact ⟨_, .kList h1 rfl, go hn⟩
theorem call_isiD (hK : ε.K = X.K) : CallR X (.builtin "isinstance") (rPL ε .isi) := by
  refine CallR.imp call_isi fun xs H Q h => ?_
  obtain ⟨φ, ds, z, hs, e, q⟩ := h
  have inv := inv_isi e
  obtain ⟨c, T, b, rfl, eb, rfl⟩ := inv
  obtain ⟨x, y, rfl, hx, hy⟩ := hs.two
  rw [hy.ty]
  obtain ⟨t, h1, h2⟩ := hx.tyX eb
  exact ⟨x, .ty T, t, .type T, b, rfl, .ty T, by rw [← hK]; exact h1, by rw [← hK]; exact h2, q _ _ Ex.refl (.bl _)⟩
theorem call_reprD (hK : ε.K = X.K) (hg : X.A.guards = some []) (hu : X.A.units + 66 < cLine) : CallR X (.builtin "repr") (rPL ε .repr) := by
  intro pins s σ H xs us Q I r h
  obtain ⟨φ, ds, z, hs, e, q⟩ := h
  have inv := inv_repr e
  obtain ⟨c, x, rfl, er, rfl⟩ := inv
  obtain ⟨y, rfl, hy⟩ := hs.one
  obtain ⟨u, rfl, ru⟩ := vals1 r
  have q : Q (.str x) H := q _ _ Ex.refl (.str _)
  unfold reprD at er
  split at er
  · rename_i p ep
    split at er
    · rename_i hp
      simp only [Bool.and_eq_true, decide_eq_true_eq, Bool.not_eq_true'] at hp
      obtain ⟨⟨⟨h1, h2⟩, h3⟩, h4⟩ := hp
      cases er
      have dp := hy.dp ep
      rw [hK] at dp
      have fin : ∀ tk, EP X pins σ Q (.str p.shown s.toks) { s with toks := tk } := fun tk => ⟨.str _, H, I.tok _, ⟨_, rfl⟩, q⟩
      have fin2 : ∀ (h' : Heap) (t tk : Tok), (∀ b o, s.heap.get? b = some o → h'.get? b = some o) → EP X pins σ Q (.str p.shown t) { s with heap := h', toks := tk } := fun h' t tk kp => ⟨.str _, H, I.kept kp, ⟨_, rfl⟩, q⟩
      cases dp with
      | non => cases ru; exact PySem.P.repr_of_none (fin _)
      | bl b => cases ru; exact PySem.P.repr_of_bool (fin _)
      | int i => obtain ⟨t, rfl⟩ := ru; exact PySem.P.repr_of_int (by simpa [PyData.showable] using h1) (fin _)
      | str w => obtain ⟨t, rfl⟩ := ru; exact PySem.P.repr_of_str (fin _) h4
      | lst hq ha =>
        obtain ⟨as, rd⟩ := Dp.reads I _ _ u (.lst hq ha) ru
        cases ru
        exact repr_of_reads' rd h1 (PyData.noDict_hsm h2) hg (by omega) (fun _ _ e => e) (fun h' t tk kp => fin2 h' t tk kp) h4
      | tup hq ha =>
        obtain ⟨as, rd⟩ := Dp.reads I _ _ u (.tup hq ha) ru
        cases ru
        exact repr_of_reads' rd h1 (PyData.noDict_hsm h2) hg (by omega) (fun _ _ e => e) (fun h' t tk kp => fin2 h' t tk kp) h4
    · cases er
  · cases er
end
end FH
end
section
/-! FH3: states by plain data; how a step leaves them. -/
namespace FH
open PySem PySem.Spec PyProof.Rows L2

section
variable {ε : Ev} {φ φ' φ'' : List Addr} {H H' H'' : Hp} {μ μ' μ'' : Store}
/-- a dict's entries, an instance's fields -/
def EncK {κ : Type} (ε : Ev) (φ : List Addr) (H : Hp) : List (κ × V) → List (κ × D) → Prop := Paired fun p q => p.1 = q.1 ∧ Enc ε φ H p.2 q.2
theorem EncK.mono {κ : Type} (φ2 : List Addr) (g : Grow H H') {ks : List (κ × V)} {ds : List (κ × D)} (h : EncK ε φ H ks ds) : EncK ε (φ ++ φ2) H' ks ds :=
  Paired.mapP h fun _ _ q => ⟨q.1, q.2.mono φ2 g⟩
/-- what stands at a place that may change -/
inductive CellOk (ε : Ev) (φ : List Addr) (H : Hp) (a : Addr) : Cell → Prop
  | lst {vs : List V} {ds : List D} : H a = some (.lst vs) → EncL ε φ H vs ds → CellOk ε φ H a (.lst ds)
  | dic {ks : List (Key × V)} {ds : List (Key × D)} : H a = some (.dK ks) → EncK ε φ H ks ds → CellOk ε φ H a (.dic ds)
  | ins {c : Nat} {dx : Addr} {fs : List (Str × V)} {ds : List (Str × D)} : H a = some (.ins (ε.ca c) dx fs) → EncK ε φ H fs ds → CellOk ε φ H a (.ins c ds)
  | tup {o : Obj} {vs : List V} {ds : List D} : H a = some (.frz o (.tup vs)) → o.cls = .type "tuple" → o.dict = none → EncL ε φ H vs ds → CellOk ε φ H a (.tup ds)
theorem CellOk.there {a : Addr} {c : Cell} (h : CellOk ε φ H a c) : ∃ o, H a = some o := by cases h <;> exact ⟨_, by assumption⟩
theorem CellOk.mono {a : Addr} {c : Cell} (φ2 : List Addr) (g : Grow H H') (k : ∀ o, H a = some o → H' a = some o) (h : CellOk ε φ H a c) : CellOk ε (φ ++ φ2) H' a c := by
  cases h with
  | lst q r => exact .lst (k _ q) (r.mono φ2 g)
  | dic q r => exact .dic (k _ q) (r.mono φ2 g)
  | ins q r => exact .ins (k _ q) (r.mono φ2 g)
  | tup q c d r => exact .tup (k _ q) c d (r.mono φ2 g)
/-- the whole store -/
structure Sto (ε : Ev) (φ : List Addr) (μ : Store) (H : Hp) : Prop where
  len : φ.length = μ.length
  nd : φ.Nodup
  at_ : ∀ (n : Nat) (a : Addr) (c : Cell), φ[n]? = some a → μ[n]? = some c → CellOk ε φ H a c
theorem Sto.get (S : Sto ε φ μ H) {n : Nat} {c : Cell} (h : μ[n]? = some c) : ∃ a, φ[n]? = some a ∧ CellOk ε φ H a c := by
  have hn := (List.getElem?_eq_some_iff.mp h).1
  have hn' : n < φ.length := by rw [S.len]; exact hn
  exact ⟨φ[n], by simp [hn'], S.at_ n _ c (by simp [hn']) h⟩
theorem Sto.mem (S : Sto ε φ μ H) {a : Addr} (h : a ∈ φ) : ∃ (n : Nat) (c : Cell), φ[n]? = some a ∧ μ[n]? = some c ∧ CellOk ε φ H a c := by
  obtain ⟨n, hn, e⟩ := List.mem_iff_getElem.mp h
  have hn' : n < μ.length := by rw [← S.len]; exact hn
  exact ⟨n, μ[n], by simp [hn, e], by simp [hn'], S.at_ n a _ (by simp [hn, e]) (by simp [hn'])⟩
theorem Sto.there (S : Sto ε φ μ H) {a : Addr} (h : a ∈ φ) : ∃ o, H a = some o := by
  obtain ⟨n, c, _, _, q⟩ := S.mem h
  exact q.there
/-- what a step leaves: what may change is known as before and more; all else stays -/
structure Ext (φ : List Addr) (H : Hp) (φ' : List Addr) (H' : Hp) : Prop where
  more : ∃ φ2, φ' = φ ++ φ2 ∧ ∀ b ∈ φ2, H b = none
  grow : Grow H H'
  keep : ∀ b o, H b = some o → b ∉ φ → H' b = some o
  there : ∀ b, H b ≠ none → H' b ≠ none
theorem Ext.refl : Ext φ H φ H := ⟨⟨[], by simp, fun _ h => by simp at h⟩, .refl, fun _ _ h _ => h, fun _ h => h⟩
theorem Ext.trans (a : Ext φ H φ' H') (b : Ext φ' H' φ'' H'') : Ext φ H φ'' H'' := by
  obtain ⟨p2, rfl, f2⟩ := a.more
  obtain ⟨p3, rfl, f3⟩ := b.more
  have fr : ∀ c ∈ p3, H c = none := fun c hc => by
    cases e : H c with
    | none => rfl
    | some o => exact absurd (f3 c hc) (a.there c (by rw [e]; simp))
  refine ⟨⟨p2 ++ p3, by simp, fun c hc => ?_⟩, a.grow.trans b.grow, fun c o e n => ?_, fun c e => b.there c (a.there c e)⟩
  · rcases List.mem_append.mp hc with h | h
    · exact f2 c h
    · exact fr c h
  · refine b.keep c o (a.keep c o e n) fun z => ?_
    rcases List.mem_append.mp z with z | z
    · exact n z
    · rw [f2 c z] at e; cases e
theorem Ext.ex (h : Ex H H') : Ext φ H φ H' := ⟨⟨[], by simp, fun _ h => by simp at h⟩, h.grow, fun b o e _ => h b o e, fun b e z => e (by
  cases q : H b with
  | none => rfl
  | some o => rw [h b o q] at z; cases z)⟩
theorem Ext.enc (x : Ext φ H φ' H') {v : V} {d : D} (h : Enc ε φ H v d) : Enc ε φ' H' v d := by
  obtain ⟨p2, rfl, _⟩ := x.more
  exact h.mono p2 x.grow
theorem Ext.encL (x : Ext φ H φ' H') {v : List V} {d : List D} (h : EncL ε φ H v d) : EncL ε φ' H' v d := by
  obtain ⟨p2, rfl, _⟩ := x.more
  exact h.mono p2 x.grow
theorem Sto.ex (h : Ex H H') (S : Sto ε φ μ H) : Sto ε φ μ H' := ⟨S.len, S.nd, fun n a c e1 e2 => by
  have q := (S.at_ n a c e1 e2).mono [] h.grow fun o e => h a o e
  rwa [List.append_nil] at q⟩
/-- a step's end -/
structure Res (ε : Ev) (φ : List Addr) (H : Hp) (φ' : List Addr) (μ' : Store) (H' : Hp) : Prop where
  ext : Ext φ H φ' H'
  sto : Sto ε φ' μ' H'
theorem Res.refl (S : Sto ε φ μ H) : Res ε φ H φ μ H := ⟨.refl, S⟩
theorem Res.trans (a : Res ε φ H φ' μ' H') (b : Res ε φ' H' φ'' μ'' H'') : Res ε φ H φ'' μ'' H'' := ⟨a.ext.trans b.ext, b.sto⟩
theorem Res.ex (S : Sto ε φ μ H) (h : Ex H H') : Res ε φ H φ μ H' := ⟨.ex h, S.ex h⟩
/-- a new cell is laid -/
theorem Res.new {p : Addr} {o : HO} {c : Cell} (S : Sto ε φ μ H) (hp : H p = none) (hc : CellOk ε (φ ++ [p]) (upd H p o) p c) : Res ε φ H (φ ++ [p]) (μ ++ [c]) (upd H p o) := by
  have x : Ex H (upd H p o) := Ex.new hp
  refine ⟨⟨⟨[p], rfl, fun b hb => by rw [List.mem_singleton.mp hb]; exact hp⟩, x.grow, fun b u e _ => x b u e, (Ext.ex (φ := φ) x).there⟩, by simp [S.len], ?_, fun n a d e1 e2 => ?_⟩
  · refine List.nodup_append.mpr ⟨S.nd, by simp, fun a ha b hb => ?_⟩
    rw [List.mem_singleton.mp hb]
    rintro rfl
    obtain ⟨o, e⟩ := S.there ha
    rw [hp] at e; cases e
  · by_cases hn : n < φ.length
    · rw [List.getElem?_append_left hn] at e1
      rw [List.getElem?_append_left (by rw [← S.len]; exact hn)] at e2
      exact (S.at_ n a d e1 e2).mono [p] x.grow fun u e => x a u e
    · rw [List.getElem?_append_right (by omega)] at e1
      rw [List.getElem?_append_right (by rw [← S.len]; omega), ← S.len] at e2
      have h0 : n - φ.length = 0 := by
        have := (List.getElem?_eq_some_iff.mp e1).1
        simp at this; omega
      rw [h0] at e1 e2
      simp at e1 e2
      subst e1; subst e2
      exact hc
/-- a cell is changed -/
theorem Res.set {n : Nat} {a : Addr} {o : HO} {c : Cell} (S : Sto ε φ μ H) (ha : φ[n]? = some a) (nt : ∀ xs, H a ≠ some (.tup xs)) (nf : ∀ q u, H a ≠ some (.frz q u))
    (hc : CellOk ε φ (upd H a o) a c) : Res ε φ H φ (μ.set n c) (upd H a o) := by
  have g : Grow H (upd H a o) := ⟨fun b xs e => by rw [upd_ne (fun z => by rw [z] at e; exact nt _ e)]; exact e, fun b q u e => by rw [upd_ne (fun z => by rw [z] at e; exact nf _ _ e)]; exact e⟩
  refine ⟨⟨⟨[], by simp, fun _ h => by simp at h⟩, g, fun b u e nb => ?_, fun b e z => ?_⟩, by simp [S.len], S.nd, fun m b d e1 e2 => ?_⟩
  · rw [upd_ne (fun z => nb (by rw [z]; exact List.mem_of_getElem? ha))]; exact e
  · by_cases hb : b = a
    · rw [hb, upd_same] at z; cases z
    · rw [upd_ne hb] at z; exact e z
  · by_cases hm : m = n
    · subst hm
      rw [ha] at e1; cases e1
      have hl := (List.getElem?_eq_some_iff.mp e2).1
      rw [List.getElem?_set_self (by simpa using hl)] at e2
      cases e2
      exact hc
    · rw [List.getElem?_set_ne (Ne.symm hm)] at e2
      have hne : b ≠ a := by
        rintro rfl
        obtain ⟨h1, q1⟩ := List.getElem?_eq_some_iff.mp e1
        obtain ⟨h2, q2⟩ := List.getElem?_eq_some_iff.mp ha
        exact hm ((List.getElem_inj S.nd).mp (q1.trans q2.symm))
      have q := (S.at_ m b d e1 e2).mono [] g fun u e => by rw [upd_ne hne]; exact e
      rwa [List.append_nil] at q
theorem dk_noT {a : Addr} {ks : List (Key × V)} (h : H a = some (.dK ks)) : ∀ xs, H a ≠ some (.tup xs) := fun xs e => by rw [h] at e; cases e
theorem dk_noF {a : Addr} {ks : List (Key × V)} (h : H a = some (.dK ks)) : ∀ q u, H a ≠ some (.frz q u) := fun xs u e => by rw [h] at e; cases e

/-! ### the def's names -/
def SlotOk (ε : Ev) (φ : List Addr) (H : Hp) : Slot → Option V → Prop
  | .emp, _ => True
  | .val d, o => ∃ v, o = some v ∧ Enc ε φ H v d
  | .own c, o => ∃ a, o = some (.ref a) ∧ CellOk ε φ H a c
/-- where the lists and dicts stand that the def alone holds -/
def ownA : Slots → L2.St → List Addr
  | .own _ :: ρ, some (.ref a) :: σ => a :: ownA ρ σ
  | _ :: ρ, _ :: σ => ownA ρ σ
  | _, _ => []
structure Rel (ε : Ev) (φ : List Addr) (ρ : Slots) (μ : Store) (σ : L2.St) (H : Hp) : Prop where
  sto : Sto ε φ μ H
  slots : Paired (SlotOk ε φ H) ρ σ
  nd : (ownA ρ σ).Nodup
  dj : ∀ a ∈ ownA ρ σ, a ∉ φ
theorem ownA_cons {s : Slot} {o : Option V} {ρ : Slots} {σ : L2.St} {a : Addr} (h : a ∈ ownA ρ σ) : a ∈ ownA (s :: ρ) (o :: σ) := by
  cases s <;> cases o <;> (try (rename_i v; cases v)) <;> (first | exact h | exact List.mem_cons_of_mem _ h | skip)
  all_goals (first | (rename_i w _; cases w <;> first | exact h | exact List.mem_cons_of_mem _ h) | skip)
theorem ownA_there : ∀ {ρ : Slots} {σ : L2.St}, Paired (SlotOk ε φ H) ρ σ → ∀ a ∈ ownA ρ σ, ∃ o, H a = some o
  | _, _, .nil, a, h => by simp [ownA] at h
  | s :: ρ, o :: σ, .cons q r, a, h => by
    cases s with
    | own c =>
      obtain ⟨b, rfl, hb⟩ := q
      simp only [ownA, List.mem_cons] at h
      rcases h with rfl | h
      · exact hb.there
      · exact ownA_there r a h
    | emp => exact ownA_there r a (by simpa [ownA] using h)
    | val d => exact ownA_there r a (by simpa [ownA] using h)
theorem slots_step (x : Ext φ H φ' H') : ∀ {ρ : Slots} {σ : L2.St}, Paired (SlotOk ε φ H) ρ σ → (∀ a ∈ ownA ρ σ, a ∉ φ) → Paired (SlotOk ε φ' H') ρ σ
  | _, _, .nil, _ => .nil
  | s :: ρ, o :: σ, .cons q r, h => by
    refine .cons ?_ (slots_step x r fun a ha => h a (ownA_cons ha))
    cases s with
    | emp => trivial
    | val d => obtain ⟨v, rfl, e⟩ := q; exact ⟨v, rfl, x.enc e⟩
    | own c =>
      obtain ⟨a, rfl, e⟩ := q
      obtain ⟨p2, rfl, _⟩ := x.more
      exact ⟨a, rfl, e.mono p2 x.grow fun u z => x.keep a u z (h a (by simp [ownA]))⟩
theorem Rel.step {ρ : Slots} {σ : L2.St} (R : Rel ε φ ρ μ σ H) (x : Res ε φ H φ' μ' H') : Rel ε φ' ρ μ' σ H' := by
  refine ⟨x.sto, slots_step x.ext R.slots R.dj, R.nd, fun a ha z => ?_⟩
  obtain ⟨p2, rfl, f2⟩ := x.ext.more
  rcases List.mem_append.mp z with z | z
  · exact R.dj a ha z
  · obtain ⟨o, e⟩ := ownA_there R.slots a ha
    rw [f2 a z] at e; cases e
theorem Rel.slot {ρ : Slots} {σ : L2.St} (R : Rel ε φ ρ μ σ H) {i : Nat} {d : D} (h : slotD ρ i = some d) : ∃ v, σ[i]? = some (some v) ∧ Enc ε φ H v d := by
  unfold slotD at h
  split at h
  · rename_i e
    cases h
    obtain ⟨o, h1, h2⟩ := paired_get R.slots e
    obtain ⟨v, rfl, h3⟩ := h2
    exact ⟨v, h1, h3⟩
  · cases h
theorem ownA_get : ∀ {ρ : Slots} {σ : L2.St} {i : Nat} {c : Cell} {a : Addr}, ρ[i]? = some (.own c) → σ[i]? = some (some (.ref a)) → a ∈ ownA ρ σ
  | [], _, _, _, _, h, _ => by simp at h
  | s :: ρ, [], i, _, _, _, h => by simp at h
  | s :: ρ, o :: σ, 0, c, a, h, k => by simp at h k; subst h; subst k; simp [ownA]
  | s :: ρ, o :: σ, i + 1, c, a, h, k => ownA_cons (ownA_get (by simpa using h) (by simpa using k))
theorem Rel.own {ρ : Slots} {σ : L2.St} (R : Rel ε φ ρ μ σ H) {i : Nat} {c : Cell} (h : ρ[i]? = some (.own c)) : ∃ a, σ[i]? = some (some (.ref a)) ∧ CellOk ε φ H a c ∧ a ∉ φ ∧ a ∈ ownA ρ σ := by
  obtain ⟨o, h1, h2⟩ := paired_get R.slots h
  obtain ⟨a, rfl, h3⟩ := h2
  have m := ownA_get h h1
  exact ⟨a, h1, h3, R.dj a m, m⟩

/-! ### operands that are read at once -/
def ArgOk (ε : Ev) (φ : List Addr) (H : Hp) (v : V) (d : D) : Prop :=
  Enc ε φ H v d ∨ ∃ a vs ds, d = .lst ds ∧ v = .ref a ∧ H a = some (.lst vs) ∧ a ∉ φ ∧ EncL ε φ H vs ds
inductive ArgsOk (ε : Ev) (φ : List Addr) (H : Hp) : List V → List D → Prop
  | nil : ArgsOk ε φ H [] []
  | cons {v : V} {vs : List V} {d : D} {ds : List D} : ArgOk ε φ H v d → ArgsOk ε φ H vs ds → ArgsOk ε φ H (v :: vs) (d :: ds)
theorem ArgOk.step (x : Ext φ H φ' H') {v : V} {d : D} (h : ArgOk ε φ H v d) : ArgOk ε φ' H' v d := by
  rcases h with h | ⟨a, vs, ds, rfl, rfl, h1, h2, h3⟩
  · exact .inl (x.enc h)
  · refine .inr ⟨a, vs, ds, rfl, rfl, x.keep a _ h1 h2, fun z => ?_, x.encL h3⟩
    obtain ⟨p2, rfl, f2⟩ := x.more
    rcases List.mem_append.mp z with z | z
    · exact h2 z
    · rw [f2 a z] at h1; cases h1
theorem ArgOk.view (S : Sto ε φ μ H) {v : V} {d : D} (h : ArgOk ε φ H v d) : Vw ε φ H v (viewD μ d) := by
  rcases h with h | ⟨a, vs, ds, rfl, rfl, h1, h2, h3⟩
  · cases h with
    | ref q =>
      rename_i n a
      unfold viewD
      simp only
      split
      · rename_i ds e
        have c := S.at_ n a _ q e
        cases c with
        | lst c1 c2 => exact .inr ⟨a, _, _, rfl, rfl, .inl (.inl c1), c2⟩
      · exact .inl (.ref q)
    | _ => exact .inl (by unfold viewD; constructor <;> assumption)
  · exact .inr ⟨a, vs, ds, rfl, rfl, .inl (.inl h1), h3⟩
theorem ArgsOk.view (S : Sto ε φ μ H) : ∀ {vs : List V} {ds : List D}, ArgsOk ε φ H vs ds → VwL ε φ H vs (ds.map (viewD μ))
  | _, _, .nil => .nil
  | _, _, .cons h t => .cons (h.view S) (ArgsOk.view S t)
theorem ArgsOk.step (x : Ext φ H φ' H') : ∀ {vs : List V} {ds : List D}, ArgsOk ε φ H vs ds → ArgsOk ε φ' H' vs ds
  | _, _, .nil => .nil
  | _, _, .cons h t => .cons (h.step x) (ArgsOk.step x t)
theorem ArgsOk.of : ∀ {vs : List V} {ds : List D}, EncL ε φ H vs ds → ArgsOk ε φ H vs ds
  | _, [], h => by cases h; exact .nil
  | _, d :: ds, h => by cases h with | cons q r => exact .cons (.inl q) (ArgsOk.of r)
end
end FH
end
section
/-! FH4: defs by what they come to; expressions, one rule a construct. -/
namespace FH
open PySem PySem.Spec PyProof.Rows L2

/-- a def keeps its promise where nothing is being shown -/
structure FnG (P : Program) (w : World) (K : PySem.W.Frag) (mg : Str → Option Value) (base : Heap) (k : Nat) (f : Addr) (fd : FuncData) (ps : List Str) (sp : Sp) : Prop where
  len : ∀ vs H Q E, sp vs H Q E → vs.length = ps.length
  run : ∀ (A : Around) (outer : List Env) (s : Shared) (H : Hp) (args : Args) (us : List Value) (vs : List V) (Q : VK), Room k A → A.guards = some [] → Env0 P w K mg base A outer s H →
    BindsTo s fd args (ps.zip us) → Vals vs us → sp vs H Q E0 → codeAny (model P w) A (.call (.ref f) args) (CR CX0 outer P w H s Q E0) s
/-- what a def's plain meaning promises -/
def spOf (ε : Ev) (g : List D → Store → Option (D × Store)) : Sp := fun vs H Q _ => ∃ φ ds μ r μ', EncL ε φ H vs ds ∧ Sto ε φ μ H ∧ g ds μ = some (r, μ') ∧ ∀ φ' v H', Res ε φ H φ' μ' H' → Enc ε φ' H' v r → Q v H'

/-- what a name of the module stands for -/
inductive G where
  | unk | no | con (d : D) | fn (f : Nat) | cls (c : Nat) | dct (kvs : List (Str × D))
structure CI where
  init : Option Nat
  meths : List (Str × Nat)
  flds : List Str
structure Tab where
  g : List (Str × G)
  c : List CI
def Tab.look (T : Tab) (x : Str) : G := (T.g.lookup x).getD .unk
/-- a block's names -/
structure SC where
  N : List Str
  sc : Scope
  bs : Option Scope
def FOk (ε : Ev) (X : Cx) (k : Nat) (g : Fns) (f : Nat) : Prop := (∃ ds μ r, g f ds μ = some r) →
  ∃ fd ps, FnG X.prog X.w X.K X.mg X.base k (ε.fa f) fd ps (spOf ε (g f)) ∧ Binds X.K fd ps [] ∧ PySem.W.keepIn X.K (.ref (ε.fa f)) = true
def GOk (ε : Ev) (X : Cx) (x : Str) : G → Prop
  | .unk => True
  | .no => X.mg x = none
  | .con d => ∃ u v, X.mg x = some u ∧ RelV v u ∧ ∀ φ H, Enc ε φ H v d
  | .fn f => X.mg x = some (.ref (ε.fa f))
  | .cls c => X.mg x = some (.ref (ε.ca c))
  | .dct kvs => ∃ a, X.mg x = some (.ref a) ∧ ∀ z d, kvs.lookup z = some d → ∃ v, KDct X.K X.w a z v ∧ ∀ φ H, Enc ε φ H v d
structure ClOk (ε : Ev) (X : Cx) (c : Nat) (I : CI) : Prop where
  cl : Cls X.K (ε.ca c)
  meth : ∀ m f, I.meths.lookup m = some f → Meth X.K (ε.ca c) m (ε.fa f)
  fld : ∀ f, I.flds.contains f = true → NoAttr X.K (ε.ca c) f
  made : ∀ f, I.init = some f → Mk X.K (ε.ca c) (ε.fa f)
/-- where a piece of the text stands -/
structure CxOk (ε : Ev) (T : Tab) (Γ : Env2) (S : SC) (X : Cx) : Prop where
  K : ε.K = X.K
  N : X.N = S.N
  nd : S.N.Nodup
  sc : X.env.scope = S.sc
  calm : X.calm = true
  xe : X.xe = fun _ _ => False
  gd : X.A.guards = some []
  hu : X.A.units + 200 < cLine
  fn : ∀ x, match S.bs with
    | none => X.fn x = true
    | some sc => X.fn x = (sc.names.lookup x == some .cell)
  gl : ∀ x, GOk ε X x (T.look x)
  fns : ∃ k, Room k X.A ∧ ∀ f, FOk ε X k Γ.fns f
  inits : ∃ k, Room (k + 1) X.A ∧ (∀ f, FOk ε X k Γ.inits f) ∨ ∀ f ds μ, Γ.inits f ds μ = none
  cls : ∀ (c : Nat) (I : CI), T.c[c]? = some I → ClOk ε X c I

section
variable {ε : Ev} {T : Tab} {Γ : Env2} {S : SC} {X : Cx}
def rdE (ε : Ev) (Γ : Env2) (ie : IE) : TE := fun σ H Q => ∃ φ ρ μ d μ', Rel ε φ ρ μ σ H ∧ evE Γ ie ρ μ = some (d, μ') ∧ ∀ φ' v H', Res ε φ H φ' μ' H' → Enc ε φ' H' v d → Q v H'
def rdT (ε : Ev) (Γ : Env2) (ie : IE) : TT := fun σ H Q => ∃ φ ρ μ d μ' k, Rel ε φ ρ μ σ H ∧ evE Γ ie ρ μ = some (d, μ') ∧ truD (viewD μ' d) = some k ∧ ∀ φ' H', Res ε φ H φ' μ' H' → Q k H'
/-- an operand: a name that alone holds its list, too -/
def rdO (ε : Ev) (Γ : Env2) (ie : IE) : TE := fun σ H Q => ∃ φ ρ μ d μ', Rel ε φ ρ μ σ H ∧ evE Γ ie ρ μ = some (d, μ') ∧ ∀ φ' v H', Res ε φ H φ' μ' H' → ArgOk ε φ' H' v d → Q v H'
def rdA (ε : Ev) (Γ : Env2) (es : IEs) : TA := fun σ H Q => ∃ φ ρ μ ds μ', Rel ε φ ρ μ σ H ∧ evEs Γ es ρ μ = some (ds, μ') ∧ ∀ φ' vs H', Res ε φ H φ' μ' H' → EncL ε φ' H' vs ds → Q vs H'
def rdAO (ε : Ev) (Γ : Env2) (es : IEs) : TA := fun σ H Q => ∃ φ ρ μ ds μ', Rel ε φ ρ μ σ H ∧ evEs Γ es ρ μ = some (ds, μ') ∧ ∀ φ' vs H', Res ε φ H φ' μ' H' → ArgsOk ε φ' H' vs ds → Q vs H'

theorem PE.imp {e : Expr} {t t' : TE} (h : PE X e t) (k : ∀ σ H Q, t' σ H Q → t σ H Q) : PE X e t' := ⟨fun pins s σ H Q I q => h.run pins s σ H Q I (k σ H Q q)⟩
theorem PT.imp {e : Expr} {t t' : TT} (h : PT X e t) (k : ∀ σ H Q, t' σ H Q → t σ H Q) : PT X e t' := ⟨fun pins s σ H Q I q => h.run pins s σ H Q I (k σ H Q q)⟩
theorem PW.imp {e : Expr} {t t' : TT} (h : PW X e t) (k : ∀ σ H Q, t' σ H Q → t σ H Q) : PW X e t' := ⟨fun wh pins s σ H Q I q => h.run wh pins s σ H Q I (k σ H Q q)⟩
theorem PA.imp {e : List Expr} {t t' : TA} (h : PA X e t) (k : ∀ σ H Q, t' σ H Q → t σ H Q) : PA X e t' := ⟨fun pos pins s σ H Q I q => h.run pos pins s σ H Q I (k σ H Q q)⟩
/-- a value is an operand -/
theorem PE.rdO {e : Expr} {ie : IE} (h : PE X e (rdE ε Γ ie)) : PE X e (rdO ε Γ ie) := PE.imp h fun σ H Q ⟨φ, ρ, μ, d, μ', R, e, q⟩ => ⟨φ, ρ, μ, d, μ', R, e, fun φ' v H' x y => q φ' v H' x (.inl y)⟩

/-! ### constants, names -/
theorem sd_int {i : Int} {j pos} : PE X (.Constant (.int i) j pos) (rdE ε Γ (.lit (.int i))) := PE.imp pe_int fun σ H Q ⟨φ, ρ, μ, d, μ', R, e, q⟩ => by
  cases e; exact q φ _ H (.refl R.sto) (.int i)
theorem sd_str {i : Str} {j pos} : PE X (.Constant (.str i) j pos) (rdE ε Γ (.lit (.str i))) := PE.imp pe_str fun σ H Q ⟨φ, ρ, μ, d, μ', R, e, q⟩ => by
  cases e; exact q φ _ H (.refl R.sto) (.str i)
theorem sd_bl {i : Bool} {j pos} : PE X (.Constant (.bool i) j pos) (rdE ε Γ (.lit (.bl i))) := PE.imp pe_bl fun σ H Q ⟨φ, ρ, μ, d, μ', R, e, q⟩ => by
  cases e; exact q φ _ H (.refl R.sto) (.bl i)
theorem sd_non {j pos} : PE X (.Constant .none j pos) (rdE ε Γ (.lit .non)) := PE.imp pe_non fun σ H Q ⟨φ, ρ, μ, d, μ', R, e, q⟩ => by
  cases e; exact q φ _ H (.refl R.sto) .non
def visB (sc : Scope) (x : Str) : Bool := match sc.names.lookup x with
  | some .local => true | some .cell => true | some .free => true | _ => false
theorem visB_ok {sc : Scope} {x : Str} (h : visB sc x = true) : Vis sc x := by
  unfold visB at h
  unfold Vis
  split at h <;> simp_all
def nameOk (x : Str) : Bool := !(x == ("__debug__" : Str)) && !(x == ("__classdict__" : Str)) && !(x == ("__name__" : Str))
theorem sd_var (C : CxOk ε T Γ S X) {i : Nat} {x : Str} {pos : Pos} (h : S.N[i]? = some x) (hv : visB S.sc x = true) (hn : nameOk x = true) : PE X (.Name x pos) (rdE ε Γ (.var i)) := by
  simp only [nameOk, Bool.and_eq_true, Bool.not_eq_true'] at hn
  refine PE.imp (pe_var (i := i) (by rw [C.N]; exact h) (by rw [C.sc]; exact visB_ok hv) hn.1.1 hn.1.2) fun σ H Q ⟨φ, ρ, μ, d, μ', R, e, q⟩ => ?_
  simp only [evE, Option.map_eq_some_iff] at e
  obtain ⟨d', e, e2⟩ := e
  cases e2
  obtain ⟨v, h1, h2⟩ := R.slot e
  exact ⟨v, h1, q φ v H (.refl R.sto) h2⟩
theorem sd_own (C : CxOk ε T Γ S X) {i : Nat} {x : Str} {pos : Pos} (h : S.N[i]? = some x) (hv : visB S.sc x = true) (hn : nameOk x = true) : PE X (.Name x pos) (rdO ε Γ (.own i)) := by
  simp only [nameOk, Bool.and_eq_true, Bool.not_eq_true'] at hn
  refine PE.imp (pe_var (i := i) (by rw [C.N]; exact h) (by rw [C.sc]; exact visB_ok hv) hn.1.1 hn.1.2) fun σ H Q ⟨φ, ρ, μ, d, μ', R, e, q⟩ => ?_
  simp only [evE, Option.map_eq_some_iff] at e
  obtain ⟨d', e, e2⟩ := e
  cases e2
  unfold ownD at e
  split at e
  · rename_i ds ei
    cases e
    obtain ⟨a, h1, h2, h3, h4⟩ := R.own ei
    refine ⟨_, h1, q φ _ H (.refl R.sto) ?_⟩
    cases h2 with
    | lst q1 q2 => exact .inr ⟨a, _, ds, rfl, rfl, q1, h3, q2⟩
  · rename_i ds ei
    cases e
    obtain ⟨a, h1, h2, h3, h4⟩ := R.own ei
    refine ⟨_, h1, q φ _ H (.refl R.sto) ?_⟩
    cases h2 with
    | tup q1 _ _ q2 => exact .inl (.tup (.inl (.inr ⟨_, q1⟩)) q2)
  · cases e
def glB (sc : Scope) (x : Str) : Bool := decide (sc.names.lookup x = some .globalImplicit)
theorem glB_ok (C : CxOk ε T Γ S X) {x : Str} (h : glB S.sc x = true) : Gl X x := by
  have e : S.sc.names.lookup x = some .globalImplicit := of_decide_eq_true h
  show X.env.scope.names.lookup x = _
  rw [C.sc]; exact e
theorem sd_glob (C : CxOk ε T Γ S X) {x : Str} {d : D} {pos : Pos} (hg : glB S.sc x = true) (hn : nameOk x = true) (ht : T.look x = .con d) : PE X (.Name x pos) (rdE ε Γ (.glob x d)) := by
  simp only [nameOk, Bool.and_eq_true, Bool.not_eq_true'] at hn
  have g := C.gl x
  rw [ht] at g
  obtain ⟨u, v, h1, h2, h3⟩ := g
  refine PE.imp (pe_glob (glB_ok C hg) h1 h2 hn.1.1) fun σ H Q ⟨φ, ρ, μ, d, μ', R, e, q⟩ => ?_
  cases e
  exact q φ v H (.refl R.sto) (h3 φ H)
theorem sd_gfn (C : CxOk ε T Γ S X) {x : Str} {f : Nat} {pos : Pos} (hg : glB S.sc x = true) (hn : nameOk x = true) (ht : T.look x = .fn f) : PE X (.Name x pos) (rdE ε Γ (.glob x (.fn f))) := by
  simp only [nameOk, Bool.and_eq_true, Bool.not_eq_true'] at hn
  have g := C.gl x
  rw [ht] at g
  refine PE.imp (pe_glob (v := .ref (ε.fa f)) (glB_ok C hg) g rfl hn.1.1) fun σ H Q ⟨φ, ρ, μ, d, μ', R, e, q⟩ => ?_
  cases e
  exact q φ _ H (.refl R.sto) (.fn f)
/-- a built-in type's name as a value -/
theorem sd_ty (C : CxOk ε T Γ S X) {x : Str} {n : String} {pos : Pos} (hg : glB S.sc x = true) (hn : nameOk x = true) (ht : T.look x = .no) (hb : bootBuiltins x = some (.type n)) : PE X (.Name x pos) (rdE ε Γ (.glob x (.ty n))) := by
  simp only [nameOk, Bool.and_eq_true, Bool.not_eq_true'] at hn
  have g := C.gl x
  rw [ht] at g
  refine PE.imp (pe_bltn (v := .ty n) (glB_ok C hg) g hb rfl (by
    intro z; rw [z] at hn; simp at hn) hn.1.1) fun σ H Q ⟨φ, ρ, μ, d, μ', R, e, q⟩ => ?_
  cases e
  exact q φ _ H (.refl R.sto) (.ty n)

/-! ### lists of operands -/
def okE : Expr → Bool
  | .Starred .. => false | .Set .. => false | .Slice .. => false | _ => true
theorem star_cons {e : Expr} {es : List Expr} {env : Env} (h : okE e = true) : starEach (e :: es) env = (false, eval e env) :: starEach es env := by
  cases e <;> first | rfl | (simp [okE] at h)
theorem star_plain : ∀ {es : List Expr} {env : Env} {pos : Pos}, es.all okE = true → (backTo pos (starEach es env)).any (·.1) = false
  | [], _, _, _ => rfl
  | e :: es, env, pos, h => by
    simp only [List.all_cons, Bool.and_eq_true] at h
    rw [star_cons h.1]
    have ih := star_plain (env := env) (pos := pos) h.2
    simpa [backTo] using ih
theorem sa_nil : PA X [] (rdA ε Γ .nil) := PA.imp pa_nil fun σ H Q ⟨φ, ρ, μ, ds, μ', R, e, q⟩ => by cases e; exact q φ _ H (.refl R.sto) .nil
theorem sa_cons {e : Expr} {es : List Expr} {ie : IE} {ies : IEs} (he : PE X e (rdE ε Γ ie)) (hs : PA X es (rdA ε Γ ies)) (ok : okE e = true) : PA X (e :: es) (rdA ε Γ (.cons ie ies)) := by
  refine PA.imp (pa_cons he hs (star_cons ok)) fun σ H Q ⟨φ, ρ, μ, ds, μ', R, e, q⟩ => ?_
  simp only [evEs, Option.bind_eq_some_iff, Option.map_eq_some_iff] at e
  obtain ⟨⟨d, μ1⟩, e1, ⟨ds', μ2⟩, e2, e3⟩ := e
  cases e3
  refine ⟨φ, ρ, μ, d, μ1, R, e1, fun φ1 v H1 x1 y1 => ⟨φ1, ρ, μ1, ds', _, R.step x1, e2, fun φ2 vs H2 x2 y2 => ?_⟩⟩
  exact q φ2 (v :: vs) H2 (x1.trans x2) (.cons (x2.ext.enc y1) y2)
theorem so_nil : PA X [] (rdAO ε Γ .nil) := PA.imp pa_nil fun σ H Q ⟨φ, ρ, μ, ds, μ', R, e, q⟩ => by cases e; exact q φ _ H (.refl R.sto) .nil
theorem so_cons {e : Expr} {es : List Expr} {ie : IE} {ies : IEs} (he : PE X e (rdO ε Γ ie)) (hs : PA X es (rdAO ε Γ ies)) (ok : okE e = true) : PA X (e :: es) (rdAO ε Γ (.cons ie ies)) := by
  refine PA.imp (pa_cons he hs (star_cons ok)) fun σ H Q ⟨φ, ρ, μ, ds, μ', R, e, q⟩ => ?_
  simp only [evEs, Option.bind_eq_some_iff, Option.map_eq_some_iff] at e
  obtain ⟨⟨d, μ1⟩, e1, ⟨ds', μ2⟩, e2, e3⟩ := e
  cases e3
  refine ⟨φ, ρ, μ, d, μ1, R, e1, fun φ1 v H1 x1 y1 => ⟨φ1, ρ, μ1, ds', _, R.step x1, e2, fun φ2 vs H2 x2 y2 => ?_⟩⟩
  exact q φ2 (v :: vs) H2 (x1.trans x2) (.cons (y1.step x2.ext) y2)

/-! ### plain operations -/
theorem fin_ex {φ : List Addr} {ρ : Slots} {μ : Store} {H0 H : Hp} {φ0 : List Addr} {z : D} {Q : VK} (x : Res ε φ0 H0 φ μ H) (q : ∀ φ' v H', Res ε φ0 H0 φ' μ H' → Enc ε φ' H' v z → Q v H') :
    ∀ v H', Ex H H' → Enc ε φ H' v z → Q v H' := fun v H' g y => q φ v H' (x.trans (.ex x.sto g)) y
theorem ev2 {p : P} {a b : IE} {ρ : Slots} {μ : Store} {r : D × Store} (h : evE Γ (.prim p (.cons a (.cons b .nil))) ρ μ = some r) :
    ∃ x μ1 y μ2 z, evE Γ a ρ μ = some (x, μ1) ∧ evE Γ b ρ μ1 = some (y, μ2) ∧ primD p [viewD μ2 x, viewD μ2 y] = some z ∧ r = (z, μ2) := by
  simp only [evE, evEs, Option.bind_eq_some_iff, Option.map_eq_some_iff] at h
  obtain ⟨⟨ds, μ'⟩, ⟨⟨x, μ1⟩, e1, ⟨es, μ3⟩, ⟨⟨y, μ2⟩, e2, ⟨fs, μ4⟩, e3, e4⟩, e5⟩, z, e6, e7⟩ := h
  cases e3; cases e4; cases e5
  exact ⟨x, μ1, y, _, z, e1, e2, e6, e7.symm⟩
theorem ev1 {p : P} {a : IE} {ρ : Slots} {μ : Store} {r : D × Store} (h : evE Γ (.prim p (.cons a .nil)) ρ μ = some r) :
    ∃ x μ1 z, evE Γ a ρ μ = some (x, μ1) ∧ primD p [viewD μ1 x] = some z ∧ r = (z, μ1) := by
  simp only [evE, evEs, Option.bind_eq_some_iff, Option.map_eq_some_iff] at h
  obtain ⟨⟨ds, μ'⟩, ⟨⟨x, μ1⟩, e1, ⟨es, μ3⟩, e3, e5⟩, z, e6, e7⟩ := h
  cases e3; cases e5
  exact ⟨x, _, z, e1, e6, e7.symm⟩
theorem rd2 {p : P} {f : D → D → Option D} (hp : ∀ c d, primD p [c, d] = f c d) {a b : IE} {σ : L2.St} {H : Hp} {Q : VK} (h : rdE ε Γ (.prim p (.cons a (.cons b .nil))) σ H Q) : tOp (rP2 ε f) (rdO ε Γ a) (rdO ε Γ b) σ H Q := by
  obtain ⟨φ, ρ, μ, d, μ', R, e, q⟩ := h
  obtain ⟨x, μ1, y, μ2, z, e1, e2, e3, e4⟩ := ev2 e
  cases e4
  rw [hp] at e3
  refine ⟨φ, ρ, μ, x, μ1, R, e1, fun φ1 v1 H1 x1 y1 => ⟨φ1, ρ, μ1, y, _, R.step x1, e2, fun φ2 v2 H2 x2 y2 => ?_⟩⟩
  exact ⟨φ2, _, _, _, (y1.step x2.ext).view x2.sto, y2.view x2.sto, e3, fin_ex (ρ := ρ) (x1.trans x2) q⟩
theorem sp_bin (C : CxOk ε T Γ S X) {op : Operator} {a b : Expr} {ia ib : IE} {pos : Pos} (ha : PE X a (rdO ε Γ ia)) (hb : PE X b (rdO ε Γ ib)) : PE X (.BinOp a op b pos) (rdE ε Γ (.prim (.bin op) (.cons ia (.cons ib .nil)))) :=
  PE.imp (pe_op (op_binD C.K op) ha hb) fun σ H Q h => rd2 (fun _ _ => rfl) h
theorem mark_ok {op : CmpOp} {b : Expr} (h : okE b = true) : behindInMarks op b = false := by
  cases b <;> first | rfl | (simp [okE] at h)
theorem sp_cmp (C : CxOk ε T Γ S X) {op : CmpOp} {a b : Expr} {ia ib : IE} {pos : Pos} (ok : okE b = true) (ha : PE X a (rdO ε Γ ia)) (hb : PE X b (rdO ε Γ ib)) : PE X (.Compare a [op] [b] pos) (rdE ε Γ (.prim (.cmp op) (.cons ia (.cons ib .nil)))) :=
  PE.imp (pe_cmpR (op_cmpD C.K (by have := C.hu; omega) op) ha hb (mark_ok ok)) fun σ H Q h => rd2 (fun _ _ => rfl) h
theorem plain_ix {b : Expr} (h : okE b = true) : PlainIx b := fun o i => by cases b <;> first | rfl | (simp [okE] at h)
theorem sp_ix (C : CxOk ε T Γ S X) {a b : Expr} {ia ib : IE} {pos : Pos} (ok : okE b = true) (ha : PE X a (rdO ε Γ ia)) (hb : PE X b (rdO ε Γ ib)) : PE X (.Subscript a b pos) (rdE ε Γ (.prim .ix (.cons ia (.cons ib .nil)))) :=
  PE.imp (pe_ix (ix_DD C.K) ha hb (plain_ix ok)) fun σ H Q h => rd2 (fun _ _ => rfl) h
theorem sp_neg {a : Expr} {ia : IE} {pos : Pos} (ha : PE X a (rdO ε Γ ia)) : PE X (.UnaryOp .USub a pos) (rdE ε Γ (.prim .neg (.cons ia .nil))) := by
  refine PE.imp (pe_un (un_negD (ε := ε)) ha) fun σ H Q h => ?_
  obtain ⟨φ, ρ, μ, d, μ', R, e, q⟩ := h
  obtain ⟨x, μ1, z, e1, e3, e4⟩ := ev1 e
  cases e4
  exact ⟨φ, ρ, μ, x, _, R, e1, fun φ1 v1 H1 x1 y1 => ⟨φ1, _, _, .cons (y1.view x1.sto) .nil, e3, fin_ex (ρ := ρ) x1 q⟩⟩
theorem rdL {p : P} {es : IEs} {σ : L2.St} {H : Hp} {Q : VK} (h : rdE ε Γ (.prim p es) σ H Q) : tCB (rPL ε p) (rdAO ε Γ es) σ H Q := by
  obtain ⟨φ, ρ, μ, d, μ', R, e, q⟩ := h
  simp only [evE, Option.bind_eq_some_iff, Option.map_eq_some_iff] at e
  obtain ⟨⟨ds, μ1⟩, e1, z, e2, e3⟩ := e
  cases e3
  exact ⟨φ, ρ, μ, ds, _, R, e1, fun φ1 vs H1 x1 y1 => ⟨φ1, _, _, y1.view x1.sto, e2, fin_ex (ρ := ρ) x1 q⟩⟩
/-- the built-in functions: name, what they are -/
def bltOf : P → Option (String × Value)
  | .len => some ("len", .builtin "len") | .abs => some ("abs", .builtin "abs") | .repr => some ("repr", .builtin "repr") | .ord => some ("ord", .builtin "ord")
  | .isi => some ("isinstance", .builtin "isinstance") | .all => some ("all", .builtin "all") | .any => some ("any", .builtin "any") | .sum => some ("sum", .builtin "sum")
  | .min => some ("min", .builtin "min") | .max => some ("max", .builtin "max") | .int => some ("int", .type "int") | .tuple => some ("tuple", .type "tuple")
  | _ => none
theorem sp_blt (C : CxOk ε T Γ S X) {p : P} {x : Str} {n : String} {u : Value} {e : Expr} {es : List Expr} {ies : IEs} {xp pos : Pos} (hb : bltOf p = some (n, u)) (hx : x = (n : Str)) (hg : glB S.sc x = true) (ht : T.look x = .no)
    (ha : PA X (e :: es) (rdAO ε Γ ies)) (ok : (e :: es).all okE = true) : PE X (.Call (.Name x xp) (e :: es) [] pos) (rdE ε Γ (.prim p ies)) := by
  have g := C.gl x
  rw [ht] at g
  simp only [List.all_cons, Bool.and_eq_true] at ok
  have h1 := star_cons (es := es) (env := X.env) ok.1
  have h2 := star_plain (env := X.env) (pos := pos) ok.2
  have gx := glB_ok C hg
  have hu := C.hu
  subst hx
  cases p <;> simp only [bltOf, Option.some.injEq, Prod.mk.injEq, reduceCtorEq] at hb <;> (obtain ⟨rfl, rfl⟩ := hb)
  · exact PE.imp (pe_callB (call_lenD C.K) gx g (by decide +kernel) ha (by decide +kernel) (by decide +kernel) h1 h2) fun σ H Q h => rdL h
  · exact PE.imp (pe_callB call_absD gx g (by decide +kernel) ha (by decide +kernel) (by decide +kernel) h1 h2) fun σ H Q h => rdL h
  · exact PE.imp (pe_callTy call_intD gx g (by decide +kernel) ha (by decide +kernel) (by decide +kernel) h1 h2) fun σ H Q h => rdL h
  · exact PE.imp (pe_callB (call_reprD C.K C.gd (by omega)) gx g (by decide +kernel) ha (by decide +kernel) (by decide +kernel) h1 h2) fun σ H Q h => rdL h
  · exact PE.imp (pe_callB call_ordD gx g (by decide +kernel) ha (by decide +kernel) (by decide +kernel) h1 h2) fun σ H Q h => rdL h
  · exact PE.imp (pe_callB (call_isiD C.K) gx g (by decide +kernel) ha (by decide +kernel) (by decide +kernel) h1 h2) fun σ H Q h => rdL h
  · exact PE.imp (pe_callTy (call_tupleD C.K) gx g (by decide +kernel) ha (by decide +kernel) (by decide +kernel) h1 h2) fun σ H Q h => rdL h
  · exact PE.imp (pe_callB (call_allD C.K C.calm) gx g (by decide +kernel) ha (by decide +kernel) (by decide +kernel) h1 h2) fun σ H Q h => rdL h
  · exact PE.imp (pe_callB (call_anyD C.K C.calm) gx g (by decide +kernel) ha (by decide +kernel) (by decide +kernel) h1 h2) fun σ H Q h => rdL h
  · exact PE.imp (pe_callB (call_sumD C.K C.calm) gx g (by decide +kernel) ha (by decide +kernel) (by decide +kernel) h1 h2) fun σ H Q h => rdL h
  · exact PE.imp (pe_callB (call_min2D C.calm) gx g (by decide +kernel) ha (by decide +kernel) (by decide +kernel) h1 h2) fun σ H Q h => rdL h
  · exact PE.imp (pe_callB (call_max2D C.calm) gx g (by decide +kernel) ha (by decide +kernel) (by decide +kernel) h1 h2) fun σ H Q h => rdL h
end
end FH
end
section
/-! FH5: truth, and, or, displays, calls, objects, dicts. -/
namespace FH
open PySem PySem.Spec PyProof.Rows L2
section
variable {ε : Ev} {T : Tab} {Γ : Env2} {S : SC} {X : Cx}

/-! ### truth -/
theorem tru_ok {φ : List Addr} {H : Hp} {v : V} {d : D} {k : Bool} (h : Vw ε φ H v d) (e : truD d = some k) : TruV ε.K v H k := by
  cases d <;> (first | (simp [truD] at e; done) | skip)
  · cases e; rw [h.non]; rfl
  · cases e; rw [h.bl]; rfl
  · cases e; rw [h.int]; rfl
  · simp only [truD] at e
    split at e
    · rename_i x hz
      cases e; rw [h.str]
      refine ⟨hz, ?_⟩
      cases hx : x.length
      · rfl
      · simp; omega
    · cases e
  · rename_i ds
    cases e
    obtain ⟨a, vs, rfl, h1, h2⟩ := h.tup
    refine .inr (.inl ⟨vs, h1, ?_⟩)
    cases ds <;> cases h2 <;> rfl
  · rename_i ds
    cases e
    obtain ⟨a, vs, rfl, h1, h2⟩ := h.lst
    refine .inl ⟨vs, h1.sq, ?_⟩
    cases ds <;> cases h2 <;> rfl
theorem sd_pt (C : CxOk ε T Γ S X) {e : Expr} {ie : IE} (h : PE X e (rdE ε Γ ie)) (he : ∀ whole, isTrue e X.env whole = (do let v ← whole; standAt e.pos; holding [v] (truthy v))) : PT X e (rdT ε Γ ie) := by
  refine PT.imp (pt_truth h he) fun σ H Q ⟨φ, ρ, μ, d, μ', k, R, e, et, q⟩ => ?_
  refine ⟨φ, ρ, μ, d, μ', R, e, fun φ1 v H1 x1 y1 => ⟨k, ?_, q φ1 H1 x1⟩⟩
  rw [← C.K]
  exact tru_ok (ArgOk.view x1.sto (.inl y1)) et
theorem cmpD_bl {op : CmpOp} {a b z : D} (h : cmpD op a b = some z) : ∃ k, z = .bl k := by
  unfold cmpD at h
  split at h <;> (first | (simp only [Option.map_eq_some_iff] at h; obtain ⟨k, _, rfl⟩ := h; exact ⟨_, rfl⟩) | (cases h; exact ⟨_, rfl⟩) | skip)
  all_goals (first | (cases h; done) | (split at h <;> (cases h; try exact ⟨_, rfl⟩)))
/-- a comparison as a test -/
theorem st_cmp (C : CxOk ε T Γ S X) {op : CmpOp} {a b : Expr} {ia ib : IE} {pos : Pos} (ok : okE b = true) (ha : PE X a (rdO ε Γ ia)) (hb : PE X b (rdO ε Γ ib)) : PT X (.Compare a [op] [b] pos) (rdT ε Γ (.prim (.cmp op) (.cons ia (.cons ib .nil)))) := by
  refine PT.imp (pt_cmpR (op_cmpD C.K (by have := C.hu; omega) op) ha hb (mark_ok ok)) fun σ H Q ⟨φ, ρ, μ, d, μ', k, R, e, et, q⟩ => ?_
  refine rd2 (fun _ _ => rfl) ⟨φ, ρ, μ, d, μ', R, e, fun φ1 v H1 x1 y1 => ?_⟩
  obtain ⟨x, m1, y, m2, z, _, _, e3, e4⟩ := ev2 e
  cases e4
  have hz : ∃ b, d = .bl b := cmpD_bl e3
  obtain ⟨b, rfl⟩ := hz
  cases y1
  cases et
  exact ⟨_, rfl, q φ1 H1 x1⟩
theorem sd_not (C : CxOk ε T Γ S X) {a : Expr} {ia : IE} {pos : Pos} (ha : PE X a (rdE ε Γ ia)) : PE X (.UnaryOp .Not a pos) (rdE ε Γ (.nott ia)) := by
  refine PE.imp (pe_notT ha) fun σ H Q ⟨φ, ρ, μ, d, μ', R, e, q⟩ => ?_
  simp only [evE, Option.bind_eq_some_iff, Option.map_eq_some_iff] at e
  obtain ⟨⟨x, μ1⟩, e1, k, e2, e3⟩ := e
  cases e3
  refine ⟨φ, ρ, μ, x, _, R, e1, fun φ1 v H1 x1 y1 => ⟨k, ?_, q φ1 _ H1 x1 (.bl _)⟩⟩
  rw [← C.K]
  exact tru_ok (ArgOk.view x1.sto (.inl y1)) e2
theorem st_not {a : Expr} {ia : IE} {pos : Pos} (ha : PT X a (rdT ε Γ ia)) : PT X (.UnaryOp .Not a pos) (rdT ε Γ (.nott ia)) := by
  refine PT.imp (pt_not ha) fun σ H Q ⟨φ, ρ, μ, d, μ', k, R, e, et, q⟩ => ?_
  simp only [evE, Option.bind_eq_some_iff, Option.map_eq_some_iff] at e
  obtain ⟨⟨x, μ1⟩, e1, k1, e2, e3⟩ := e
  cases e3
  cases et
  exact ⟨φ, ρ, μ, x, _, k1, R, e1, e2, fun φ1 H1 x1 => q φ1 H1 x1⟩
theorem sd_and (C : CxOk ε T Γ S X) {a b : Expr} {rest : List Expr} {ia ib : IE} {pos : Pos} (ha : PE X a (rdE ε Γ ia)) (hb : PE X (.BoolOp .And (b :: rest) pos) (rdE ε Γ ib)) : PE X (.BoolOp .And (a :: b :: rest) pos) (rdE ε Γ (.andd ia ib)) := by
  refine PE.imp (pe_andT ha hb) fun σ H Q ⟨φ, ρ, μ, d, μ', R, e, q⟩ => ?_
  simp only [evE, Option.bind_eq_some_iff] at e
  obtain ⟨⟨x, μ1⟩, e1, k, e2, e3⟩ := e
  refine ⟨φ, ρ, μ, x, _, R, e1, fun φ1 v H1 x1 y1 => ⟨k, ?_, ?_⟩⟩
  · rw [← C.K]; exact tru_ok (ArgOk.view x1.sto (.inl y1)) e2
  · cases k with
    | true => exact ⟨φ1, ρ, μ1, d, μ', R.step x1, by simpa using e3, fun φ2 w H2 x2 y2 => q φ2 w H2 (x1.trans x2) y2⟩
    | false =>
      simp at e3
      obtain ⟨rfl, rfl⟩ := e3
      exact q φ1 v H1 x1 y1
theorem sd_or (C : CxOk ε T Γ S X) {a b : Expr} {rest : List Expr} {ia ib : IE} {pos : Pos} (ha : PE X a (rdE ε Γ ia)) (hb : PE X (.BoolOp .Or (b :: rest) pos) (rdE ε Γ ib)) : PE X (.BoolOp .Or (a :: b :: rest) pos) (rdE ε Γ (.orr ia ib)) := by
  refine PE.imp (pe_orT ha hb) fun σ H Q ⟨φ, ρ, μ, d, μ', R, e, q⟩ => ?_
  simp only [evE, Option.bind_eq_some_iff] at e
  obtain ⟨⟨x, μ1⟩, e1, k, e2, e3⟩ := e
  refine ⟨φ, ρ, μ, x, _, R, e1, fun φ1 v H1 x1 y1 => ⟨k, ?_, ?_⟩⟩
  · rw [← C.K]; exact tru_ok (ArgOk.view x1.sto (.inl y1)) e2
  · cases k with
    | false => exact ⟨φ1, ρ, μ1, d, μ', R.step x1, by simpa using e3, fun φ2 w H2 x2 y2 => q φ2 w H2 (x1.trans x2) y2⟩
    | true =>
      simp at e3
      obtain ⟨rfl, rfl⟩ := e3
      exact q φ1 v H1 x1 y1
theorem sw_and {a b : Expr} {rest : List Expr} {ia ib : IE} {pos : Pos} (ha : PT X a (rdT ε Γ ia)) (hb : PW X (.BoolOp .And (b :: rest) pos) (rdT ε Γ ib)) : PW X (.BoolOp .And (a :: b :: rest) pos) (rdT ε Γ (.andd ia ib)) := by
  refine PW.imp (pw_and ha hb) fun σ H Q ⟨φ, ρ, μ, d, μ', k, R, e, et, q⟩ => ?_
  simp only [evE, Option.bind_eq_some_iff] at e
  obtain ⟨⟨x, μ1⟩, e1, k1, e2, e3⟩ := e
  refine ⟨φ, ρ, μ, x, μ1, k1, R, e1, e2, fun φ1 H1 x1 => ?_⟩
  cases k1 with
  | true => exact ⟨φ1, ρ, μ1, d, μ', k, R.step x1, by simpa using e3, et, fun φ2 H2 x2 => q φ2 H2 (x1.trans x2)⟩
  | false =>
    simp at e3
    obtain ⟨rfl, rfl⟩ := e3
    rw [e2] at et; cases et
    exact q φ1 H1 x1
theorem sw_or {a b : Expr} {rest : List Expr} {ia ib : IE} {pos : Pos} (ha : PT X a (rdT ε Γ ia)) (hb : PW X (.BoolOp .Or (b :: rest) pos) (rdT ε Γ ib)) : PW X (.BoolOp .Or (a :: b :: rest) pos) (rdT ε Γ (.orr ia ib)) := by
  refine PW.imp (pw_or ha hb) fun σ H Q ⟨φ, ρ, μ, d, μ', k, R, e, et, q⟩ => ?_
  simp only [evE, Option.bind_eq_some_iff] at e
  obtain ⟨⟨x, μ1⟩, e1, k1, e2, e3⟩ := e
  refine ⟨φ, ρ, μ, x, μ1, k1, R, e1, e2, fun φ1 H1 x1 => ?_⟩
  cases k1 with
  | false => exact ⟨φ1, ρ, μ1, d, μ', k, R.step x1, by simpa using e3, et, fun φ2 H2 x2 => q φ2 H2 (x1.trans x2)⟩
  | true =>
    simp at e3
    obtain ⟨rfl, rfl⟩ := e3
    rw [e2] at et; cases et
    exact q φ1 H1 x1
theorem ev_cond {c a b : IE} {ρ : Slots} {μ : Store} {r : D × Store} (h : evE Γ (.cond c a b) ρ μ = some r) : ∃ x μ1 k, evE Γ c ρ μ = some (x, μ1) ∧ truD (viewD μ1 x) = some k ∧ (if k = true then evE Γ a ρ μ1 = some r else evE Γ b ρ μ1 = some r) := by
  simp only [evE, Option.bind_eq_some_iff] at h
  obtain ⟨⟨x, μ1⟩, e1, k, e2, e3⟩ := h
  exact ⟨x, μ1, k, e1, e2, by cases k <;> simpa using e3⟩
theorem sd_cond {c a b : Expr} {ic ia ib : IE} {pos : Pos} (hc : PT X c (rdT ε Γ ic)) (ha : PE X a (rdE ε Γ ia)) (hb : PE X b (rdE ε Γ ib)) : PE X (.IfExp c a b pos) (rdE ε Γ (.cond ic ia ib)) := by
  refine PE.imp (pe_ifExp hc ha hb) fun σ H Q ⟨φ, ρ, μ, d, μ', R, e, q⟩ => ?_
  obtain ⟨x, μ1, k, e1, e2, e3⟩ := ev_cond e
  refine ⟨φ, ρ, μ, x, μ1, k, R, e1, e2, fun φ1 H1 x1 => ?_⟩
  cases k with
  | true => exact ⟨φ1, ρ, μ1, d, μ', R.step x1, by simpa using e3, fun φ2 w H2 x2 y2 => q φ2 w H2 (x1.trans x2) y2⟩
  | false => exact ⟨φ1, ρ, μ1, d, μ', R.step x1, by simpa using e3, fun φ2 w H2 x2 y2 => q φ2 w H2 (x1.trans x2) y2⟩
def tIfT (c t u : TT) : TT := fun σ H Q => c σ H fun k H1 => if k = true then t σ H1 Q else u σ H1 Q
theorem pt_ifExp {c a b : Expr} {tc ta tb : TT} {pos : Pos} (hc : PT X c tc) (ha : PT X a ta) (hb : PT X b tb) : PT X (.IfExp c a b pos) (tIfT tc ta tb) := by
  refine ⟨fun pins s σ H Q I h => ?_⟩
  refine isTrue_IfExp (thn (hc.run pins s σ H _ I h) fun k s1 ⟨H1, I1, q1⟩ => ?_)
  cases k with
  | true => exact ha.run pins s1 σ H1 Q I1 q1
  | false => exact hb.run pins s1 σ H1 Q I1 q1
theorem st_cond {c a b : Expr} {ic ia ib : IE} {pos : Pos} (hc : PT X c (rdT ε Γ ic)) (ha : PT X a (rdT ε Γ ia)) (hb : PT X b (rdT ε Γ ib)) : PT X (.IfExp c a b pos) (rdT ε Γ (.cond ic ia ib)) := by
  refine PT.imp (pt_ifExp hc ha hb) fun σ H Q ⟨φ, ρ, μ, d, μ', kk, R, e, et, q⟩ => ?_
  obtain ⟨x, μ1, k, e1, e2, e3⟩ := ev_cond e
  refine ⟨φ, ρ, μ, x, μ1, k, R, e1, e2, fun φ1 H1 x1 => ?_⟩
  cases k with
  | true => exact ⟨φ1, ρ, μ1, d, μ', kk, R.step x1, by simpa using e3, et, fun φ2 H2 x2 => q φ2 H2 (x1.trans x2)⟩
  | false => exact ⟨φ1, ρ, μ1, d, μ', kk, R.step x1, by simpa using e3, et, fun φ2 H2 x2 => q φ2 H2 (x1.trans x2)⟩
/-- two comparisons in a chain -/
theorem rd_chain {o1 o2 : CmpOp} {a b c : IE} {σ : L2.St} {H : Hp} {Q : VK} (h : rdE ε Γ (.cmp2 o1 o2 a b c) σ H Q) : tChain (rP2 ε (cmpD o1)) (rP2 ε (cmpD o2)) (rdO ε Γ a) (rdO ε Γ b) (rdO ε Γ c) σ H Q := by
  obtain ⟨φ, ρ, μ, d, μ', R, e, q⟩ := h
  simp only [evE, Option.bind_eq_some_iff] at e
  obtain ⟨⟨x, μ1⟩, e1, ⟨y, μ2⟩, e2, k, e3, e4⟩ := e
  refine ⟨φ, ρ, μ, x, μ1, R, e1, fun φ1 v1 H1 x1 y1 => ⟨φ1, ρ, μ1, y, μ2, R.step x1, e2, fun φ2 v2 H2 x2 y2 => ?_⟩⟩
  refine ⟨φ2, _, _, k, (y1.step x2.ext).view x2.sto, y2.view x2.sto, e3, fun v H3 g3 y3 => ?_⟩
  have x3 : Res ε φ2 H2 φ2 μ2 H3 := .ex x2.sto g3
  split at e4
  · cases y3
    refine ⟨true, rfl, ?_⟩
    simp only [if_true]
    simp only [Option.bind_eq_some_iff, Option.map_eq_some_iff] at e4
    obtain ⟨⟨z, μ3⟩, e5, d', e6, e7⟩ := e4
    cases e7
    refine ⟨φ2, ρ, μ2, z, _, (R.step (x1.trans x2)).step x3, e5, fun φ4 v4 H4 x4 y4 => ?_⟩
    exact ⟨φ4, _, _, _, ((y2.step x3.ext).step x4.ext).view x4.sto, y4.view x4.sto, e6, fin_ex (ρ := ρ) (((x1.trans x2).trans x3).trans x4) q⟩
  · cases y3
    cases e4
    refine ⟨false, rfl, ?_⟩
    simp only [Bool.false_eq_true, if_false]
    exact q φ2 _ H3 ((x1.trans x2).trans x3) (.bl _)
  · cases e4
theorem mark2 {o1 o2 : CmpOp} {b c : Expr} (h2 : okE c = true) : lastMarks [o1, o2] [b, c] = false := by
  show behindInMarks o2 c = false
  exact mark_ok h2
theorem sd_chain (C : CxOk ε T Γ S X) {o1 o2 : CmpOp} {a b c : Expr} {ia ib ic : IE} {pos : Pos} (ok : okE c = true) (ha : PE X a (rdO ε Γ ia)) (hb : PE X b (rdO ε Γ ib)) (hc : PE X c (rdO ε Γ ic)) :
    PE X (.Compare a [o1, o2] [b, c] pos) (rdE ε Γ (.cmp2 o1 o2 ia ib ic)) :=
  PE.imp (pe_chain (op_cmpD C.K (by have := C.hu; omega) o1) (op_cmpD C.K (by have := C.hu; omega) o2) ha hb hc (mark2 ok)) fun σ H Q h => rd_chain h
theorem st_chain (C : CxOk ε T Γ S X) {o1 o2 : CmpOp} {a b c : Expr} {ia ib ic : IE} {pos : Pos} (ok : okE c = true) (ha : PE X a (rdO ε Γ ia)) (hb : PE X b (rdO ε Γ ib)) (hc : PE X c (rdO ε Γ ic)) :
    PT X (.Compare a [o1, o2] [b, c] pos) (rdT ε Γ (.cmp2 o1 o2 ia ib ic)) := by
  refine PT.imp (pt_chain (op_cmpD C.K (by have := C.hu; omega) o1) (op_cmpD C.K (by have := C.hu; omega) o2) ha hb hc (mark2 ok)) fun σ H Q ⟨φ, ρ, μ, d, μ', k, R, e, et, q⟩ => ?_
  refine rd_chain ⟨φ, ρ, μ, d, μ', R, e, fun φ1 v H1 x1 y1 => ?_⟩
  have hz : ∃ b, d = .bl b := by
    simp only [evE, Option.bind_eq_some_iff] at e
    obtain ⟨_, _, _, _, k, _, e⟩ := e
    split at e
    · simp only [Option.bind_eq_some_iff, Option.map_eq_some_iff] at e
      obtain ⟨_, _, d', e6, e7⟩ := e
      cases e7
      exact cmpD_bl e6
    · cases e; exact ⟨_, rfl⟩
    · cases e
  obtain ⟨b, rfl⟩ := hz
  cases y1
  cases et
  exact ⟨_, rfl, q φ1 H1 x1⟩

/-! ### tuples, new lists -/
theorem sd_tup {es : List Expr} {ies : IEs} {j : Nat} {pos : Pos} (h : PA X es (rdA ε Γ ies)) : PE X (.Tuple es j pos) (rdE ε Γ (.tup ies)) := by
  refine PE.imp (pe_tup h) fun σ H Q ⟨φ, ρ, μ, d, μ', R, e, q⟩ => ?_
  simp only [evE, Option.bind_eq_some_iff] at e
  obtain ⟨⟨ds, μ1⟩, e1, e2⟩ := e
  split at e2
  · rename_i hz
    cases e2
    refine ⟨φ, ρ, μ, ds, _, R, e1, fun φ1 vs H1 x1 y1 => ⟨by rw [y1.length]; exact hz, fun p hp => ?_⟩⟩
    have g : Ex H1 (upd H1 p (.tup vs)) := Ex.new hp
    exact q φ1 _ _ (x1.trans (.ex x1.sto g)) (.tup (SqT.of upd_same) (y1.grow g.grow))
  · cases e2
/-- a new list, alone as yet -/
structure NewL (ε : Ev) (φ : List Addr) (H : Hp) (φ' : List Addr) (μ' : Store) (H' : Hp) (p : Addr) (ds : List D) : Prop where
  res : Res ε φ H φ' μ' H'
  free : H p = none
  out : p ∉ φ'
  it : ∃ vs, H' p = some (.lst vs) ∧ EncL ε φ' H' vs ds
def rdF (ε : Ev) (Γ : Env2) (f : FE) : TE := fun σ H Q => ∃ φ ρ μ ds μ', Rel ε φ ρ μ σ H ∧ evF Γ f ρ μ = some (ds, μ') ∧ ∀ φ' H' p, NewL ε φ H φ' μ' H' p ds → Q (.ref p) H'
theorem NewL.mk' {φ φ1 : List Addr} {H H1 : Hp} {μ1 : Store} {p : Addr} {vs : List V} {ds : List D} (x : Res ε φ H φ1 μ1 H1) (hp : H1 p = none) (y : EncL ε φ1 H1 vs ds) : NewL ε φ H φ1 μ1 (upd H1 p (.lst vs)) p ds := by
  have g : Ex H1 (upd H1 p (.lst vs)) := Ex.new hp
  refine ⟨x.trans (.ex x.sto g), ?_, fun z => ?_, vs, upd_same, y.grow g.grow⟩
  · cases e : H p with
    | none => rfl
    | some o => exact absurd hp (x.ext.there p (by rw [e]; simp))
  · obtain ⟨o, e⟩ := x.sto.there z
    rw [hp] at e; cases e
theorem NewL.frz {φ φ' : List Addr} {H H' : Hp} {μ' : Store} {p : Addr} {ds : List D} (n : NewL ε φ H φ' μ' H' p ds) : ∃ ys, H' p = some (.lst ys) ∧ ∀ o, Res ε φ H φ' μ' (upd H' p (.frz o (.lst ys))) ∧ Enc ε φ' (upd H' p (.frz o (.lst ys))) (.ref p) (.lst ds) := by
  obtain ⟨vs, h1, h2⟩ := n.it
  refine ⟨vs, h1, fun o => ?_⟩
  have ne : ∀ b u, H b = some u → b ≠ p := fun b u e z => by rw [z, n.free] at e; cases e
  have g : Grow H' (upd H' p (.frz o (.lst vs))) := ⟨fun b xs e => by rw [upd_ne (fun z => by rw [z, h1] at e; cases e)]; exact e, fun b q u e => by rw [upd_ne (fun z => by rw [z, h1] at e; cases e)]; exact e⟩
  obtain ⟨⟨⟨p2, e2, f2⟩, gr, kp, th⟩, S⟩ := n.res
  refine ⟨⟨⟨⟨p2, e2, f2⟩, gr.trans g, fun b u e nb => ?_, fun b e z => ?_⟩, ⟨S.len, S.nd, fun m a c e1 e2 => ?_⟩⟩, .lst (.inl ⟨o, upd_same⟩) (h2.grow g)⟩
  · rw [upd_ne (ne b u e)]; exact kp b u e nb
  · by_cases hb : b = p
    · rw [hb, upd_same] at z; cases z
    · rw [upd_ne hb] at z; exact th b e z
  · have q := (S.at_ m a c e1 e2).mono [] g fun u e => by rw [upd_ne (fun z => n.out (by rw [← z]; exact List.mem_of_getElem? e1))]; exact e
    rwa [List.append_nil] at q
theorem NewL.cell {φ φ' : List Addr} {H H' : Hp} {μ' : Store} {p : Addr} {ds : List D} (n : NewL ε φ H φ' μ' H' p ds) : Res ε φ H (φ' ++ [p]) (μ' ++ [.lst ds]) H' ∧ Enc ε (φ' ++ [p]) H' (.ref p) (.ref μ'.length) := by
  obtain ⟨vs, h1, h2⟩ := n.it
  obtain ⟨⟨⟨p2, e2, f2⟩, gr, kp, th⟩, S⟩ := n.res
  refine ⟨⟨⟨⟨p2 ++ [p], by rw [e2, List.append_assoc], fun b hb => ?_⟩, gr, kp, th⟩, ⟨by simp [S.len], ?_, fun m a c q1 q2 => ?_⟩⟩, .ref ?_⟩
  · rcases List.mem_append.mp hb with hb | hb
    · exact f2 b hb
    · rw [List.mem_singleton.mp hb]; exact n.free
  · exact List.nodup_append.mpr ⟨S.nd, by simp, fun a ha b hb => by rw [List.mem_singleton.mp hb]; exact fun z => n.out (z ▸ ha)⟩
  · by_cases hm : m < φ'.length
    · rw [List.getElem?_append_left hm] at q1
      rw [List.getElem?_append_left (by rw [← S.len]; exact hm)] at q2
      exact (S.at_ m a c q1 q2).mono [p] .refl fun _ e => e
    · rw [List.getElem?_append_right (by omega)] at q1
      rw [List.getElem?_append_right (by rw [← S.len]; omega), ← S.len] at q2
      have h0 : m - φ'.length = 0 := by
        have := (List.getElem?_eq_some_iff.mp q1).1
        simp at this; omega
      rw [h0] at q1 q2
      simp at q1 q2
      subst q1; subst q2
      exact .lst h1 (h2.mono [p] .refl)
  · rw [← S.len]; simp
theorem sd_frz {e : Expr} {f : FE} (h : PE X e (rdF ε Γ f)) : PE X e (rdE ε Γ (.frz f)) := by
  refine ⟨fun pins s σ H Q I ⟨φ, ρ, μ, d, μ', R, e, q⟩ => ?_⟩
  simp only [evE, Option.map_eq_some_iff] at e
  obtain ⟨⟨ds, μ1⟩, e1, e2⟩ := e
  cases e2
  refine thn (h.run pins s σ H (fun v H' => ∃ p ys, v = .ref p ∧ H' p = some (.lst ys) ∧ ∀ o, Q v (upd H' p (.frz o (.lst ys)))) I ⟨φ, ρ, μ, ds, _, R, e1, fun φ1 H1 p n => ?_⟩) fun _ _ z => EP.frz z
  obtain ⟨ys, h1, h2⟩ := n.frz
  exact ⟨p, ys, rfl, h1, fun o => q φ1 _ _ (h2 o).1 (h2 o).2⟩
theorem sd_cell {e : Expr} {f : FE} (h : PE X e (rdF ε Γ f)) : PE X e (rdE ε Γ (.cell f)) := by
  refine PE.imp h fun σ H Q ⟨φ, ρ, μ, d, μ', R, e, q⟩ => ?_
  simp only [evE, Option.map_eq_some_iff] at e
  obtain ⟨⟨ds, μ1⟩, e1, e2⟩ := e
  cases e2
  exact ⟨φ, ρ, μ, ds, _, R, e1, fun φ1 H1 p n => q _ _ _ n.cell.1 n.cell.2⟩
theorem sf_disp {es : List Expr} {ies : IEs} {pos : Pos} (h : PA X es (rdA ε Γ ies)) : PE X (.List es pos) (rdF ε Γ (.disp ies)) := by
  refine PE.imp (pe_lst h) fun σ H Q ⟨φ, ρ, μ, ds, μ', R, e, q⟩ => ?_
  simp only [evF, Option.bind_eq_some_iff] at e
  obtain ⟨⟨es', μ1⟩, e1, e2⟩ := e
  split at e2
  · rename_i hz
    cases e2
    exact ⟨φ, ρ, μ, ds, _, R, e1, fun φ1 vs H1 x1 y1 => ⟨by rw [y1.length]; exact hz, fun p hp => q φ1 _ p (.mk' x1 hp y1)⟩⟩
  · cases e2
theorem sf_list (C : CxOk ε T Γ S X) {a : Expr} {ia : IE} {xp pos : Pos} (hg : glB S.sc "list" = true) (ht : T.look "list" = .no) (ha : PE X a (rdO ε Γ ia)) (ok : okE a = true) : PE X (.Call (.Name "list" xp) [a] [] pos) (rdF ε Γ (.list ia)) := by
  have g := C.gl "list"
  rw [ht] at g
  refine PE.imp (pe_callTy call_list_of (glB_ok C hg) g (by decide +kernel) (pa_cons ha pa_nil (star_cons ok)) (by decide +kernel) (by decide +kernel) (star_cons ok) rfl) fun σ H Q ⟨φ, ρ, μ, ds, μ', R, e, q⟩ => ?_
  simp only [evF, Option.bind_eq_some_iff] at e
  obtain ⟨⟨x, μ1⟩, e1, e2⟩ := e
  refine ⟨φ, ρ, μ, x, μ1, R, e1, fun φ1 v H1 x1 y1 => ?_⟩
  have w := y1.view x1.sto
  split at e2
  · rename_i es ev
    cases e2
    rw [ev] at w
    obtain ⟨a, vs, rfl, h1, h2⟩ := w.tup
    exact ⟨a, vs, rfl, .inr (by rw [← C.K]; exact h1), fun l hl => q φ1 _ l (.mk' x1 hl h2)⟩
  · rename_i es ev
    cases e2
    rw [ev] at w
    obtain ⟨a, vs, rfl, h1, h2⟩ := w.lst
    exact ⟨a, vs, rfl, .inl (C.K ▸ h1.sq), fun l hl => q φ1 _ l (.mk' x1 hl h2)⟩
  · cases e2
theorem sf_cat (C : CxOk ε T Γ S X) {a b : Expr} {ia ib : IE} {pos : Pos} (ha : PE X a (rdO ε Γ ia)) (hb : PE X b (rdO ε Γ ib)) : PE X (.BinOp a .Add b pos) (rdF ε Γ (.cat ia ib)) := by
  refine PE.imp (pe_op op_catL ha hb) fun σ H Q ⟨φ, ρ, μ, ds, μ', R, e, q⟩ => ?_
  simp only [evF, Option.bind_eq_some_iff] at e
  obtain ⟨⟨x, μ1⟩, e1, ⟨y, μ2⟩, e2, e3⟩ := e
  refine ⟨φ, ρ, μ, x, μ1, R, e1, fun φ1 v1 H1 x1 y1 => ⟨φ1, ρ, μ1, y, μ2, R.step x1, e2, fun φ2 v2 H2 x2 y2 => ?_⟩⟩
  have w1 := (y1.step x2.ext).view x2.sto
  have w2 := y2.view x2.sto
  split at e3
  · rename_i xs ys ev1 ev2
    split at e3
    · rename_i hz
      cases e3
      rw [ev1] at w1
      rw [ev2] at w2
      obtain ⟨a, vs, rfl, h1, h2⟩ := w1.lst
      obtain ⟨b, ws, rfl, k1, k2⟩ := w2.lst
      have l1 := h2.length
      have l2 := k2.length
      exact ⟨a, b, vs, ws, rfl, rfl, C.K ▸ h1, C.K ▸ k1, by omega, fun p hp => q φ2 _ p (.mk' (x1.trans x2) hp (h2.app k2))⟩
    · cases e3
  · cases e3
theorem sd_celld {pos : Pos} : PE X (.Dict [] [] pos) (rdE ε Γ .celld) := by
  refine PE.imp pe_dnewK fun σ H Q ⟨φ, ρ, μ, d, μ', R, e, q⟩ => ?_
  simp only [evE, Option.some.injEq, Prod.mk.injEq] at e
  obtain ⟨rfl, rfl⟩ := e
  intro p hp
  refine q _ _ _ (Res.new R.sto hp (.dic upd_same .nil)) (.ref ?_)
  rw [← R.sto.len]; simp

/-! ### slices -/
def rdP (ε : Ev) (Γ : Env2) (o : IO) : TO := fun σ H Q => ∃ φ ρ μ d μ', Rel ε φ ρ μ σ H ∧ evO Γ o ρ μ = some (d, μ') ∧ ∀ φ' H', Res ε φ H φ' μ' H' → Q d H'
theorem PO.imp {e : Option Expr} {t t' : TO} (h : PO X e t) (k : ∀ σ H Q, t' σ H Q → t σ H Q) : PO X e t' := ⟨fun pins s σ H Q I q => h.run pins s σ H Q I (k σ H Q q)⟩
theorem so_no : PO X none (rdP ε Γ .no) := PO.imp po_none fun σ H Q ⟨φ, ρ, μ, d, μ', R, e, q⟩ => by cases e; exact q φ H (.refl R.sto)
theorem so_som {e : Expr} {ie : IE} (h : PE X e (rdE ε Γ ie)) : PO X (some e) (rdP ε Γ (.som ie)) := PO.imp (po_some h) fun σ H Q ⟨φ, ρ, μ, d, μ', R, e, q⟩ => by
  simp only [evO, Option.bind_eq_some_iff] at e
  obtain ⟨⟨x, μ1⟩, e1, e2⟩ := e
  split at e2
  · rename_i i ei
    cases e2
    subst ei
    exact ⟨φ, ρ, μ, .int i, _, R, e1, fun φ1 v H1 x1 y1 => by cases y1; exact ⟨i, rfl, q φ1 H1 x1⟩⟩
  · cases e2
def rSlD (ε : Ev) : V → Option Int → Option Int → Hp → VK → Prop := fun x lo hi H Q =>
  (∃ z, x = .str z ∧ z.length ≤ sizeLine ∧ Q (.str (cutS z lo hi)) H) ∨ rSlA ε.K x lo hi H Q ∨ rSlL ε.K x lo hi H (fun v H' => ∃ p ys, v = .ref p ∧ H' p = some (.lst ys) ∧ ∀ o, Q v (upd H' p (.frz o (.lst ys))))
theorem SlR.frz {r : V → Option Int → Option Int → Hp → VK → Prop} (h : SlR X r) : SlR X (fun x lo hi H Q => r x lo hi H (fun v H' => ∃ p ys, v = .ref p ∧ H' p = some (.lst ys) ∧ ∀ o, Q v (upd H' p (.frz o (.lst ys))))) :=
  fun pins s σ H x v vl vu lo hi sl Q I rx hs pl pu q => by
    obtain ⟨T, id, h1, h2, h3⟩ := h pins s σ H x v vl vu lo hi sl _ I rx hs pl pu q
    exact ⟨T, id, h1, h2, thn h3 fun _ _ e => EP.frz e⟩
theorem sl_D (hK : ε.K = X.K) : SlR X (rSlD ε) := by
  have h := (sl_str (X := X)).or (sl_tupA.or (SlR.frz sl_list))
  unfold rSlD
  rw [hK]
  exact h
theorem EncL.cut {φ : List Addr} {H : Hp} {vs : List V} {ds : List D} (h : EncL ε φ H vs ds) (a b : Nat) : EncL ε φ H ((vs.drop a).take b) ((ds.drop a).take b) := (h.drop a).take b
theorem sd_slice (C : CxOk ε T Γ S X) {e : Expr} {lo hi : Option Expr} {ie : IE} {il ih : IO} {p2 pos : Pos} (he : PE X e (rdO ε Γ ie)) (hl : PO X lo (rdP ε Γ il)) (hh : PO X hi (rdP ε Γ ih)) :
    PE X (.Subscript e (.Slice lo hi none p2) pos) (rdE ε Γ (.slice ie il ih)) := by
  refine PE.imp (pe_slice (sl_D C.K) he hl hh) fun σ H Q ⟨φ, ρ, μ, d, μ', R, e, q⟩ => ?_
  simp only [evE, Option.bind_eq_some_iff] at e
  obtain ⟨⟨x, μ1⟩, e1, ⟨l, μ2⟩, e2, ⟨h, μ3⟩, e3, e4⟩ := e
  refine ⟨φ, ρ, μ, x, μ1, R, e1, fun φ1 v1 H1 x1 y1 => ⟨φ1, ρ, μ1, l, μ2, R.step x1, e2, fun φ2 H2 x2 => ⟨φ2, ρ, μ2, h, μ3, (R.step x1).step x2, e3, fun φ3 H3 x3 => ?_⟩⟩⟩
  have w := ((y1.step x2.ext).step x3.ext).view x3.sto
  have x := (x1.trans x2).trans x3
  split at e4
  · rename_i ds ev
    cases e4
    rw [ev] at w
    obtain ⟨a, vs, rfl, h1, h2⟩ := w.tup
    have l1 := h2.length
    refine .inr (.inl ⟨a, vs, rfl, h1, fun hw => ?_, fun hw p hp => ?_⟩)
    · have eq : (ds.drop (HT.sIx ds.length 0 l)).take (HT.sIx ds.length ds.length h - HT.sIx ds.length 0 l) = ds := by
        rw [l1] at hw
        rw [hw.1, hw.2]; simp
      rw [eq] at q
      exact q φ3 _ H3 x (.tup h1 h2)
    · have g : Ex H3 (upd H3 p (.tup (cutV vs l h))) := Ex.new hp
      have cu : EncL ε φ3 H3 (cutV vs l h) ((ds.drop (HT.sIx ds.length 0 l)).take (HT.sIx ds.length ds.length h - HT.sIx ds.length 0 l)) := by
        unfold cutV
        rw [l1]
        exact h2.cut _ _
      exact q φ3 _ _ (x.trans (.ex x.sto g)) (.tup (SqT.of upd_same) (cu.grow g.grow))
  · rename_i ds ev
    cases e4
    rw [ev] at w
    obtain ⟨a, vs, rfl, h1, h2⟩ := w.lst
    have l1 := h2.length
    refine .inr (.inr ⟨a, vs, rfl, C.K ▸ h1.sq, fun p hp => ⟨p, _, rfl, upd_same, fun o => ?_⟩⟩)
    have g : Ex H3 (upd (upd H3 p (.lst (cutV vs l h))) p (.frz o (.lst (cutV vs l h)))) := frz_new hp
    have cu : EncL ε φ3 H3 (cutV vs l h) ((ds.drop (HT.sIx ds.length 0 l)).take (HT.sIx ds.length ds.length h - HT.sIx ds.length 0 l)) := by
      unfold cutV
      rw [l1]
      exact h2.cut _ _
    exact q φ3 _ _ (x.trans (.ex x.sto g)) (.lst (.inl ⟨o, upd_same⟩) (cu.grow g.grow))
  · rename_i z ev
    split at e4
    · rename_i hz
      cases e4
      rw [ev] at w
      exact .inl ⟨z, w.str, hz, q φ3 _ H3 x (.str _)⟩
    · cases e4
  · cases e4
end
end FH
end
section
/-! FH6: calls, objects, dicts. -/
namespace FH
open PySem PySem.Spec PyProof.Rows L2
section
variable {ε : Ev} {T : Tab} {Γ : Env2} {S : SC} {X : Cx}
/-- a def runs -/
theorem runG {k f : Nat} {fa : Addr} {fd : FuncData} {ps : List Str} {sp : Sp} {pins : List (Addr × Obj)} {σ : L2.St} {H : Hp} {s : Shared} {Q : VK} {us : List Value} {vs : List V} (C : CxOk ε T Γ S X)
    (F : FnG X.prog X.w X.K X.mg X.base k fa fd ps sp) (hr : Room k X.A) (hb : Binds X.K fd ps []) (I : L2.Inv X pins σ H s) (r : Vals vs us) (h : sp vs H Q E0) :
    wpAny (model X.prog X.w) X.A (call (.ref fa) us) (EP X pins σ Q) X.xe s := by
  have hl : us.length = ps.length := by rw [← r.length]; exact F.len _ _ _ _ h
  have hb' := hb s us I.kIn (by simpa using hl)
  rw [List.append_nil] at hb'
  refine wpAny_call (codeAny_mono (F.run X.A X.stack s H ⟨us, []⟩ us vs Q hr C.gd I.env0 hb' r h) fun res s' hq => ?_)
  cases res with
  | error e => exact False.elim hq
  | ok fl => cases fl with
    | ret u => exact I.after hq
    | next => exact False.elim hq
    | brk => exact False.elim hq
    | cont => exact False.elim hq
/-- a def by its plain meaning, called -/
theorem callG (C : CxOk ε T Γ S X) {f : Nat} {pins : List (Addr × Obj)} {σ : L2.St} {H : Hp} {s : Shared} {Q : VK} {us : List Value} {vs : List V} {φ : List Addr} {ds : List D} {μ μ' : Store} {r : D}
    (I : L2.Inv X pins σ H s) (rv : Vals vs us) (hv : EncL ε φ H vs ds) (St : Sto ε φ μ H) (e : Γ.fns f ds μ = some (r, μ')) (q : ∀ φ' v H', Res ε φ H φ' μ' H' → Enc ε φ' H' v r → Q v H') :
    wpAny (model X.prog X.w) X.A (call (.ref (ε.fa f)) us) (EP X pins σ Q) X.xe s := by
  obtain ⟨k, hr, hf⟩ := C.fns
  obtain ⟨fd, ps, F, hb, hk⟩ := hf f ⟨ds, μ, _, e⟩
  exact runG (f := f) C F hr hb I rv ⟨φ, ds, μ, r, μ', hv, St, e, q⟩
theorem kpG (C : CxOk ε T Γ S X) {f : Nat} {ds : List D} {μ : Store} {r : D × Store} (e : Γ.fns f ds μ = some r) : PySem.W.keepIn X.K (.ref (ε.fa f)) = true := by
  obtain ⟨k, hr, hf⟩ := C.fns
  obtain ⟨fd, ps, F, hb, hk⟩ := hf f ⟨ds, μ, _, e⟩
  exact hk
theorem noDebug {x : Str} (hn : nameOk x = true) : (x == ("__debug__" : Str)) = false := by
  simp only [nameOk, Bool.and_eq_true, Bool.not_eq_true'] at hn
  exact hn.1.1
/-- what is wanted of the operands, from what is wanted of the call -/
theorem ev_call {f : Nat} {x : Str} {es : IEs} {ρ : Slots} {μ : Store} {r : D × Store} (h : evE Γ (.call x f es) ρ μ = some r) : ∃ ds μ1, evEs Γ es ρ μ = some (ds, μ1) ∧ Γ.fns f ds μ1 = some r := by
  simp only [evE, Option.bind_eq_some_iff] at h
  obtain ⟨⟨ds, μ1⟩, e1, e2⟩ := h
  exact ⟨ds, μ1, e1, e2⟩
theorem sd_call0 (C : CxOk ε T Γ S X) {x : Str} {f : Nat} {xp pos : Pos} (hg : glB S.sc x = true) (hn : nameOk x = true) (ht : T.look x = .fn f) :
    PE X (.Call (.Name x xp) [] [] pos) (rdE ε Γ (.call x f .nil)) := by
  have g := C.gl x
  rw [ht] at g
  refine ⟨fun pins s σ H Q I ⟨φ, ρ, μ, d, μ', R, e, q⟩ => ?_⟩
  obtain ⟨ds, μ1, e1, e2⟩ := ev_call e
  cases e1
  refine wpAny_Call_Name_kw (ld_glob I (glB_ok C hg) g ?_ (noDebug hn))
  exact PySem.W.callWith_K0 I.kIn (kpG C e2) (callG C I .nil .nil R.sto e2 q)
theorem sd_call (C : CxOk ε T Γ S X) {x : Str} {f : Nat} {e : Expr} {es : List Expr} {ies : IEs} {xp pos : Pos} (hg : glB S.sc x = true) (hn : nameOk x = true) (ht : T.look x = .fn f) (ha : PA X (e :: es) (rdA ε Γ ies)) (ok : (e :: es).all okE = true) :
    PE X (.Call (.Name x xp) (e :: es) [] pos) (rdE ε Γ (.call x f ies)) := by
  have g := C.gl x
  rw [ht] at g
  simp only [List.all_cons, Bool.and_eq_true] at ok
  refine ⟨fun pins s σ H Q I ⟨φ, ρ, μ, d, μ', R, e, q⟩ => ?_⟩
  obtain ⟨ds, μ1, e1, e2⟩ := ev_call e
  refine wpAny_Call_Name_kw (ld_glob I (glB_ok C hg) g ?_ (noDebug hn))
  refine PySem.W.callWith_K (h₀ := X.base) I.ok.mod.kin (kpG C e2) (thn (ha.run pos pins s σ H (fun vs H1 => ∃ φ1, Res ε φ H φ1 μ1 H1 ∧ EncL ε φ1 H1 vs ds) I ⟨φ, ρ, μ, ds, μ1, R, e1, fun φ1 vs H1 x1 y1 => ⟨φ1, x1, y1⟩⟩) fun us s1 ⟨vs, H1, I1, r, φ1, x1, y1⟩ => ⟨I1.kIn, ?_⟩) (star_cons ok.1) (star_plain ok.2)
  exact callG C I1 r y1 x1.sto e2 fun φ2 v H2 x2 y2 => q φ2 v H2 (x1.trans x2) y2
/-- a local name that holds a def, called -/
theorem sd_callv (C : CxOk ε T Γ S X) {i : Nat} {x : Str} {e : Expr} {es : List Expr} {ies : IEs} {xp pos : Pos} (h : S.N[i]? = some x) (hv : visB S.sc x = true) (hn : nameOk x = true) (ha : PA X (e :: es) (rdA ε Γ ies)) (ok : (e :: es).all okE = true) :
    PE X (.Call (.Name x xp) (e :: es) [] pos) (rdE ε Γ (.callv i ies)) := by
  simp only [List.all_cons, Bool.and_eq_true] at ok
  refine ⟨fun pins s σ H Q I ⟨φ, ρ, μ, d, μ', R, e, q⟩ => ?_⟩
  simp only [evE, Option.bind_eq_some_iff] at e
  obtain ⟨c, e0, e⟩ := e
  split at e
  · rename_i f
    simp only [Option.bind_eq_some_iff] at e
    obtain ⟨⟨ds, μ1⟩, e1, e2⟩ := e
    refine wpAny_Call_Name_kw (thn ((sd_var (Γ := Γ) C (pos := xp) h hv hn).run pins s σ H (fun v H' => ∃ φ', Res ε φ H φ' μ H' ∧ Enc ε φ' H' v (.fn f)) I ⟨φ, ρ, μ, .fn f, μ, R, by simp [evE, e0], fun φ1 v H1 x1 y1 => ⟨φ1, x1, y1⟩⟩) fun u s1 ⟨v, H1, I1, r1, φ1, x1, y1⟩ => ?_)
    cases y1
    cases r1
    refine PySem.W.callWith_K (h₀ := X.base) I.ok.mod.kin (kpG C e2) (thn (ha.run pos pins s1 σ H1 (fun vs H2 => ∃ φ2, Res ε φ H φ2 μ1 H2 ∧ EncL ε φ2 H2 vs ds) I1 ⟨φ1, ρ, μ, ds, μ1, R.step x1, e1, fun φ2 vs H2 x2 y2 => ⟨φ2, x1.trans x2, y2⟩⟩) fun us s2 ⟨vs, H2, I2, r, φ2, x2, y2⟩ => ⟨I2.kIn, ?_⟩) (star_cons ok.1) (star_plain ok.2)
    exact callG C I2 r y2 x2.sto e2 fun φ3 v H3 x3 y3 => q φ3 v H3 (x2.trans x3) y3
  · cases e

/-! ### objects -/
/-- what a field is read of here -/
def objB : Expr → Bool
  | .Name .. => true | .Attribute .. => true | .Subscript .. => true | .Constant .. => true | .JoinedStr .. => true | _ => false
theorem base_ok {o : Expr} {f : Str} {env : Env} (h : objB o = true) : attributeBase o f env (eval o env) = eval o env := by
  cases o <;> first | rfl | (simp [objB] at h)
theorem EncK.look {φ : List Addr} {H : Hp} {f : Str} {d : D} : ∀ {fs : List (Str × V)} {ds : List (Str × D)}, EncK ε φ H fs ds → ds.lookup f = some d → ∃ v, fs.lookup f = some v ∧ Enc ε φ H v d
  | _, _, .nil, e => by simp at e
  | (g, v) :: fs, (_, c) :: ds, .cons ⟨rfl, h⟩ t, e => by
    simp only [List.lookup_cons] at e ⊢
    cases hg : f == g with
    | true => simp only [hg] at e ⊢; cases e; exact ⟨v, rfl, h⟩
    | false => simp only [hg] at e ⊢; exact EncK.look t e
theorem EncK.no {φ : List Addr} {H : Hp} {f : Str} : ∀ {fs : List (Str × V)} {ds : List (Str × D)}, EncK ε φ H fs ds → ds.lookup f = none → fs.lookup f = none
  | _, _, .nil, e => by simp
  | (g, v) :: fs, (_, c) :: ds, .cons ⟨rfl, h⟩ t, e => by
    simp only [List.lookup_cons] at e ⊢
    cases hg : f == g with
    | true => simp only [hg] at e; cases e
    | false => simp only [hg] at e ⊢; exact EncK.no t e
theorem EncK.put {φ : List Addr} {H : Hp} {f : Str} {v : V} {d : D} (hd : Enc ε φ H v d) : ∀ {fs : List (Str × V)} {ds : List (Str × D)}, EncK ε φ H fs ds → EncK ε φ H (putF f v fs) (putD f d ds)
  | _, _, .nil => .cons ⟨rfl, hd⟩ .nil
  | (g, w) :: fs, (_, c) :: ds, .cons ⟨rfl, h⟩ t => by
    unfold putF putD
    by_cases hg : g = f
    · simp only [hg, if_true]; exact .cons ⟨rfl, hd⟩ t
    · simp only [hg, if_false]; exact .cons ⟨rfl, h⟩ (EncK.put hd t)
theorem EncK.len {κ : Type} {φ : List Addr} {H : Hp} {fs : List (κ × V)} {ds : List (κ × D)} (h : EncK ε φ H fs ds) : fs.length = ds.length := Paired.length h
/-- which classes have which fields: told by the table -/
def fldB (T : Tab) (f : Str) : Bool := T.c.all fun I => I.flds.contains f
theorem ins_cls (C : CxOk ε T Γ S X) {φ : List Addr} {H : Hp} {n : Nat} {μ : Store} {c : Nat} {fs : List (Str × D)} (St : Sto ε φ μ H) (e : μ[n]? = some (.ins c fs)) :
    ∃ a dx vs, φ[n]? = some a ∧ H a = some (.ins (ε.ca c) dx vs) ∧ EncK ε φ H vs fs := by
  obtain ⟨a, h1, h2⟩ := St.get e
  cases h2 with
  | ins q r => exact ⟨a, _, _, h1, q, r⟩
theorem sd_attr (C : CxOk ε T Γ S X) {o : Expr} {io : IE} {c : Nat} {f : Str} {I0 : CI} {pos : Pos} (ok : objB o = true) (hc : T.c[c]? = some I0) (hf : I0.flds.contains f = true) (ho : PE X o (rdE ε Γ io)) : PE X (.Attribute o f pos) (rdE ε Γ (.attr c io f)) := by
  refine PE.imp (pe_fld ho (base_ok ok)) fun σ H Q ⟨φ, ρ, μ, d, μ', R, e, q⟩ => ?_
  simp only [evE, Option.bind_eq_some_iff] at e
  obtain ⟨⟨x, μ1⟩, e1, e2⟩ := e
  refine ⟨φ, ρ, μ, x, μ1, R, e1, fun φ1 v H1 x1 y1 => ?_⟩
  split at e2
  · rename_i n hx
    obtain rfl : x = .ref n := hx
    split at e2
    · rename_i c' fs en
      split at e2
      · rename_i hcc
        subst hcc
        simp only [Option.map_eq_some_iff] at e2
        obtain ⟨d', e3, e4⟩ := e2
        cases e4
        cases y1 with
        | ref hn =>
          obtain ⟨a, dx, vs, h1, h2, h3⟩ := ins_cls C x1.sto en
          rw [hn] at h1; cases h1
          obtain ⟨w, h4, h5⟩ := h3.look e3
          have K := C.cls _ _ hc
          exact ⟨_, _, dx, vs, w, rfl, h2, K.cl, K.fld f hf, h4, q φ1 w H1 x1 h5⟩
      · cases e2
    · cases e2
  · cases e2
theorem few_ok {args : List Expr} {env : Env} {pos : Pos} (ok : args.all okE = true) (hl : args.length < 30) : methodCallForm (args.length + ([] : List Keyword).length) (backTo pos (starEach args env)) (backToKw pos (keywordEach [] env)) = true := by
  have h := star_plain (env := env) (pos := pos) ok
  unfold methodCallForm
  have h2 : (backTo pos (starEach args env)).all (fun x => !x.1) = true := by
    rw [List.all_eq_true]
    intro x hx
    cases e : x.1 with
    | false => rfl
    | true =>
      have : (backTo pos (starEach args env)).any (·.1) = true := List.any_eq_true.mpr ⟨x, hx, e⟩
      rw [h] at this; cases this
  rw [h2]
  have e0 : backToKw pos (keywordEach ([] : List Keyword) env) = [] := rfl
  rw [e0]
  simpa using hl
theorem eval_meth {o : Expr} {m : Str} {apos pos : Pos} {args : List Expr} {env : Env} (h : objB o = true) (ok : args.all okE = true) (hl : args.length < 30) (line : (apos.endLine == pos.line) = true) :
    eval (.Call (.Attribute o m apos) args [] pos) env = (do
      let ov ← eval o env
      standAt apos.atName
      let (f, first) ← holding [ov] (getMethod ov m (do return (← importBound o env).getD true))
      callWith pos f first (backTo pos (starEach args env)) (backToKw pos (keywordEach [] env))) := by
  have e1 : eval (.Call (.Attribute o m apos) args [] pos) env = (do
      let ov ← attributeBase o m env (eval o env)
      standAt apos.atName
      methodCall o m apos pos env ov (args.length + ([] : List Keyword).length) (backTo pos (starEach args env)) (backToKw pos (keywordEach [] env))) := rfl
  rw [e1, base_ok h]
  unfold methodCall calleeOf methodCallPos
  rw [few_ok ok hl, line]
  rfl
theorem sd_mcall (C : CxOk ε T Γ S X) {o : Expr} {io : IE} {c f : Nat} {m : Str} {I0 : CI} {es : List Expr} {ies : IEs} {apos pos : Pos} (ok : objB o = true) (hc : T.c[c]? = some I0) (hm : I0.meths.lookup m = some f) (ho : PE X o (rdE ε Γ io))
    (ha : PA X es (rdA ε Γ ies)) (oks : es.all okE = true) (hl : es.length < 30) (line : (apos.endLine == pos.line) = true) (hn : es = [] → ies = .nil) : PE X (.Call (.Attribute o m apos) es [] pos) (rdE ε Γ (.mcall c m f io ies)) := by
  have ht := eval_meth (m := m) (apos := apos) (pos := pos) (args := es) (env := X.env) ok oks hl line
  have K := C.cls _ _ hc
  have M := K.meth m f hm
  refine ⟨fun pins s σ H Q I ⟨φ, ρ, μ, d, μ', R, e, q⟩ => ?_⟩
  simp only [evE, Option.bind_eq_some_iff] at e
  obtain ⟨⟨x, μ1⟩, e1, e2⟩ := e
  refine PySem.W.methodCall_KW (thn (ho.run pins s σ H (fun v H1 => ∃ φ1, Res ε φ H φ1 μ1 H1 ∧ Enc ε φ1 H1 v x) I ⟨φ, ρ, μ, x, μ1, R, e1, fun φ1 v H1 x1 y1 => ⟨φ1, x1, y1⟩⟩) fun u s1 ⟨v, H1, I1, rx, φ1, x1, y1⟩ => ?_) ht
  split at e2
  · rename_i n hx
    obtain rfl : x = .ref n := hx
    split at e2
    · rename_i c' fs en
      split at e2
      · rename_i hcc
        obtain ⟨rfl, hno⟩ := hcc
        simp only [Option.bind_eq_some_iff] at e2
        obtain ⟨⟨ds, μ2⟩, e3, e4⟩ := e2
        cases y1 with
        | ref hn1 =>
          rename_i a
          obtain ⟨a', dx, vs, h1, h2, h3⟩ := ins_cls C x1.sto en
          rw [hn1] at h1; cases h1
          obtain rfl : u = Value.ref a := rx
          refine getmeth_ok I1 h2 K.cl M (h3.no hno) ?_
          have fin : ∀ {s2 : Shared} {us : List Value} {ws : List V} {φ2 : List Addr} {H2 : Hp}, L2.Inv X pins σ H2 s2 → Vals ws us → Res ε φ1 H1 φ2 μ2 H2 → EncL ε φ2 H2 ws ds → wpAny (model X.prog X.w) X.A (call (.ref (ε.fa f)) (.ref a :: us)) (EP X pins σ Q) X.xe s2 :=
            fun I2 r x2 y2 => callG C I2 (.cons (show L2.RelV (.ref a) (.ref a) from rfl) r) (.cons (x2.ext.enc (.ref hn1)) y2) x2.sto e4 fun φ3 v H3 x3 y3 => q φ3 v H3 ((x1.trans x2).trans x3) y3
          cases es with
          | nil =>
            rw [hn rfl] at e3
            cases e3
            exact PySem.W.callWith_K0 (first := [.ref a]) I1.kIn M.kp (fin I1 .nil (.refl x1.sto) .nil)
          | cons b bs =>
            simp only [List.all_cons, Bool.and_eq_true] at oks
            exact PySem.W.callWith_K (first := [.ref a]) (h₀ := X.base) I.ok.mod.kin M.kp (thn (ha.run pos pins s1 σ H1 (fun ws H2 => ∃ φ2, Res ε φ1 H1 φ2 μ2 H2 ∧ EncL ε φ2 H2 ws ds) I1 ⟨φ1, ρ, μ1, ds, μ2, R.step x1, e3, fun φ2 ws H2 x2 y2 => ⟨φ2, x2, y2⟩⟩) fun us s2 ⟨ws, H2, I2, r, φ2, x2, y2⟩ => ⟨I2.kIn, fin I2 r x2 y2⟩) (star_cons oks.1) (star_plain oks.2)
      · cases e2
    · cases e2
  · cases e2
/-- C(..) -/
theorem makeG (C : CxOk ε T Γ S X) {c f : Nat} {I0 : CI} (hc : T.c[c]? = some I0) (hi : I0.init = some f) {pins : List (Addr × Obj)} {σ : L2.St} {H : Hp} {s : Shared} {Q : VK} {us : List Value} {vs : List V} {φ : List Addr} {ds : List D} {μ μ' : Store}
    (I : L2.Inv X pins σ H s) (rv : Vals vs us) (hv : EncL ε φ H vs ds) (St : Sto ε φ μ H) (e : Γ.inits f (.ref μ.length :: ds) (μ ++ [.ins c []]) = some (.non, μ'))
    (q : ∀ φ' v H', Res ε φ H φ' μ' H' → Enc ε φ' H' v (.ref μ.length) → Q v H') : wpAny (model X.prog X.w) X.A (call (.ref (ε.ca c)) us) (EP X pins σ Q) X.xe s := by
  have K := C.cls _ _ hc
  have M := K.made f hi
  obtain ⟨k, ⟨hr, hf⟩ | hno⟩ := C.inits
  · obtain ⟨fd, ps, F, hb, hk⟩ := hf f ⟨_, _, _, e⟩
    have hx : H (s.heap.objs.size + 1) = none := I.hok.fresh (Nat.le_succ _)
    have hdx : H s.heap.objs.size = none := I.hok.fresh (Nat.le_refl _)
    have ne : s.heap.objs.size ≠ s.heap.objs.size + 1 := Nat.ne_of_lt (Nat.lt_succ_self _)
    have I2 := Inv.made (C := ε.ca c) I
    have g1 : Ex H (upd H s.heap.objs.size (.own (s.heap.objs.size + 1))) := Ex.new hdx
    have hx1 : (upd H s.heap.objs.size (.own (s.heap.objs.size + 1))) (s.heap.objs.size + 1) = none := by rw [upd_ne (Ne.symm ne)]; exact hx
    have x1 : Res ε φ H φ μ (upd H s.heap.objs.size (.own (s.heap.objs.size + 1))) := .ex St g1
    have x2 : Res ε φ H (φ ++ [s.heap.objs.size + 1]) (μ ++ [.ins c []]) (upd (upd H s.heap.objs.size (.own (s.heap.objs.size + 1))) (s.heap.objs.size + 1) (.ins (ε.ca c) s.heap.objs.size [])) := x1.trans (Res.new x1.sto hx1 (.ins upd_same .nil))
    have r2 : Vals (V.ref (s.heap.objs.size + 1) :: vs) (Value.ref (s.heap.objs.size + 1) :: us) := .cons rfl rv
    have self : (φ ++ [s.heap.objs.size + 1])[μ.length]? = some (s.heap.objs.size + 1) := by rw [← St.len]; simp
    have hsp : spOf ε (Γ.inits f) (V.ref (s.heap.objs.size + 1) :: vs) (upd (upd H s.heap.objs.size (.own (s.heap.objs.size + 1))) (s.heap.objs.size + 1) (.ins (ε.ca c) s.heap.objs.size [])) (fun v H2 => v = .non ∧ Q (.ref (s.heap.objs.size + 1)) H2) E0 :=
      ⟨_, _, _, .non, μ', .cons (.ref self) (x2.ext.encL hv), x2.sto, e, fun φ3 v H3 x3 y3 => by
        cases y3
        refine ⟨rfl, q φ3 _ H3 (x2.trans x3) (.ref ?_)⟩
        obtain ⟨p3, rfl, _⟩ := x3.ext.more
        exact get_app self⟩
    have hl : (Value.ref (s.heap.objs.size + 1) :: us).length = ps.length := by rw [← r2.length]; exact F.len _ _ _ _ hsp
    have hb' := hb _ (Value.ref (s.heap.objs.size + 1) :: us) I2.kIn (by simpa using hl)
    rw [List.append_nil] at hb'
    have hgd : (X.A.under (.builtin "type.__call__" ⟨.ref (ε.ca c) :: us, []⟩)).guards = some [] := by
      have := C.gd
      simp [Around.under, Code.guards, pushGuards, this, Code.isGuard, guardIds]
    refine wpAny_call (make_map (f := ε.fa f) I.kIn M.makes M.init (beq_iff_eq.mp M.fn) (codeAny_mono (F.run _ X.stack _ _ ⟨Value.ref (s.heap.objs.size + 1) :: us, []⟩ _ _ _ (hr.make _ us []) hgd (I2.env0.make _ us []) hb' r2 hsp) fun res s' hq' => ?_))
    cases res with
    | error e => exact False.elim hq'
    | ok fl => cases fl with
      | ret u =>
        obtain ⟨v, H', I3, rv, ev, q3⟩ := I2.after hq'
        subst ev
        exact ⟨rv, ⟨V.ref (s.heap.objs.size + 1), H', I3, rfl, q3⟩⟩
      | next => exact False.elim hq'
      | brk => exact False.elim hq'
      | cont => exact False.elim hq'
  · rw [hno] at e; cases e
theorem sd_make (C : CxOk ε T Γ S X) {x : Str} {c f : Nat} {I0 : CI} {es : List Expr} {ies : IEs} {xp pos : Pos} (hg : glB S.sc x = true) (hn : nameOk x = true) (ht : T.look x = .cls c) (hc : T.c[c]? = some I0) (hi : I0.init = some f)
    (ha : PA X es (rdA ε Γ ies)) (oks : es.all okE = true) (hnil : es = [] → ies = .nil) : PE X (.Call (.Name x xp) es [] pos) (rdE ε Γ (.make x c f ies)) := by
  have g := C.gl x
  rw [ht] at g
  have M := (C.cls _ _ hc).made f hi
  refine ⟨fun pins s σ H Q I ⟨φ, ρ, μ, d, μ', R, e, q⟩ => ?_⟩
  simp only [evE, Option.bind_eq_some_iff] at e
  obtain ⟨⟨ds, μ1⟩, e1, ⟨z, μ2⟩, e2, e3⟩ := e
  split at e3
  · rename_i hz
    cases e3
    obtain rfl : z = .non := hz
    refine wpAny_Call_Name_kw (ld_glob I (glB_ok C hg) g ?_ (noDebug hn))
    have fin : ∀ {s1 : Shared} {us : List Value} {vs : List V} {φ1 : List Addr} {H1 : Hp}, L2.Inv X pins σ H1 s1 → Vals vs us → Res ε φ H φ1 μ1 H1 → EncL ε φ1 H1 vs ds → wpAny (model X.prog X.w) X.A (call (.ref (ε.ca c)) us) (EP X pins σ Q) X.xe s1 :=
      fun I1 r x1 y1 => makeG C hc hi I1 r y1 x1.sto e2 fun φ2 v H2 x2 y2 => q φ2 v H2 (x1.trans x2) y2
    cases es with
    | nil =>
      rw [hnil rfl] at e1
      cases e1
      exact PySem.W.callWith_K0 I.kIn M.kp (fin I .nil (.refl R.sto) .nil)
    | cons b bs =>
      simp only [List.all_cons, Bool.and_eq_true] at oks
      exact PySem.W.callWith_K (h₀ := X.base) I.ok.mod.kin M.kp (thn (ha.run pos pins s σ H (fun ws H2 => ∃ φ2, Res ε φ H φ2 μ1 H2 ∧ EncL ε φ2 H2 ws ds) I ⟨φ, ρ, μ, ds, μ1, R, e1, fun φ2 ws H2 x2 y2 => ⟨φ2, x2, y2⟩⟩) fun us s2 ⟨ws, H2, I2, r, φ2, x2, y2⟩ => ⟨I2.kIn, fin I2 r x2 y2⟩) (star_cons oks.1) (star_plain oks.2)
  · cases e3

/-! ### dicts -/
theorem keyD_ok {φ : List Addr} {H : Hp} {v : V} {d : D} {k : Key} (h : Enc ε φ H v d) (e : keyD d = some k) : v = kV k := by
  cases d <;> (first | (simp [keyD] at e; done) | skip) <;> (cases e; cases h; rfl)
theorem EncK.val {φ : List Addr} {H : Hp} {k : Key} : ∀ {ks : List (Key × V)} {ds : List (Key × D)}, EncK ε φ H ks ds → match getK ds k with
    | some d => ∃ v, valV ks k = some v ∧ Enc ε φ H v d
    | none => valV ks k = none
  | _, _, .nil => rfl
  | (g, v) :: ks, (_, c) :: ds, .cons ⟨rfl, h⟩ t => by
    have ih := EncK.val (k := k) t
    unfold getK valV at ih ⊢
    by_cases hg : g = k
    · simp only [List.find?_cons, hg, decide_true, Option.map_some]
      exact ⟨v, rfl, h⟩
    · simp only [List.find?_cons, hg, decide_false]
      exact ih
theorem EncK.any {φ : List Addr} {H : Hp} {k : Key} : ∀ {ks : List (Key × V)} {ds : List (Key × D)}, EncK ε φ H ks ds → (ks.any fun kv => decide (kv.1 = k)) = ds.any fun kv => decide (kv.1 = k)
  | _, _, .nil => rfl
  | (g, v) :: ks, (_, c) :: ds, .cons ⟨rfl, h⟩ t => by simp only [List.any_cons, EncK.any t]
theorem EncK.repl {φ : List Addr} {H : Hp} {k : Key} {v : V} {d : D} (hd : Enc ε φ H v d) : ∀ {ks : List (Key × V)} {ds : List (Key × D)}, EncK ε φ H ks ds →
    EncK ε φ H (ks.map fun kv => if kv.1 = k then (kv.1, v) else kv) (ds.map fun kv => if kv.1 = k then (kv.1, d) else kv)
  | _, _, .nil => .nil
  | (g, w) :: ks, (_, c) :: ds, .cons ⟨rfl, h⟩ t => by
    simp only [List.map_cons]
    refine .cons ?_ (EncK.repl hd t)
    by_cases hg : g = k
    · simp only [hg, if_true]; exact ⟨trivial, hd⟩
    · simp only [hg, if_false]; exact ⟨trivial, h⟩
theorem EncK.app {κ : Type} {φ : List Addr} {H : Hp} {ks ls : List (κ × V)} {ds es : List (κ × D)} (h : EncK ε φ H ks ds) (t : EncK ε φ H ls es) : EncK ε φ H (ks ++ ls) (ds ++ es) := by
  induction h with
  | nil => exact t
  | cons q _ ih => exact .cons q ih
theorem EncK.setK {φ : List Addr} {H : Hp} {k : Key} {v : V} {d : D} {ks : List (Key × V)} {ds : List (Key × D)} (h : EncK ε φ H ks ds) (hd : Enc ε φ H v d) : EncK ε φ H (putK ks k v) (FH.setK ds k d) := by
  unfold putK FH.setK
  rw [h.any]
  split
  · exact h.repl hd
  · exact h.app (.cons ⟨rfl, hd⟩ .nil)
theorem dic_at {φ : List Addr} {H : Hp} {μ : Store} {n : Nat} {a : Addr} {kvs : List (Key × D)} (St : Sto ε φ μ H) (ha : φ[n]? = some a) (e : μ[n]? = some (.dic kvs)) : ∃ ks, H a = some (.dK ks) ∧ EncK ε φ H ks kvs := by
  have h := St.at_ n a _ ha e
  cases h with
  | dic q r => exact ⟨_, q, r⟩
theorem dhas_key {neg : Bool} {ii io : IE} {σ : L2.St} {H : Hp} {Q : VK} (h : rdE ε Γ (.dhas neg ii io) σ H Q) : rdE ε Γ ii σ H fun y H1 => rdE ε Γ io σ H1 fun x H2 => ∃ a o, x = .ref a ∧ DGet H2 a y o ∧ Q (.bl (if neg then !o.isSome else o.isSome)) H2 := by
  obtain ⟨φ, ρ, μ, d, μ', R, e, q⟩ := h
  simp only [evE, Option.bind_eq_some_iff] at e
  obtain ⟨⟨y, μ1⟩, e1, ⟨x, μ2⟩, e2, e3⟩ := e
  refine ⟨φ, ρ, μ, y, μ1, R, e1, fun φ1 v1 H1 x1 y1 => ⟨φ1, ρ, μ1, x, μ2, R.step x1, e2, fun φ2 v2 H2 x2 y2 => ?_⟩⟩
  split at e3
  · rename_i n hx
    obtain rfl : x = .ref n := hx
    split at e3
    · rename_i kvs en
      simp only [Option.map_eq_some_iff] at e3
      obtain ⟨k, ek, e4⟩ := e3
      cases e4
      cases y2 with
      | ref hn =>
        obtain ⟨ks, h1, h2⟩ := dic_at x2.sto hn en
        rw [keyD_ok (x2.ext.enc y1) ek]
        have hv := h2.val (k := k)
        refine ⟨_, _, rfl, DGet.k h1, ?_⟩
        cases eg : getK kvs k with
        | none =>
          rw [eg] at hv q
          rw [hv]
          exact q φ2 _ H2 (x1.trans x2) (.bl _)
        | some dd =>
          rw [eg] at hv q
          obtain ⟨w, hw, _⟩ := hv
          rw [hw]
          exact q φ2 _ H2 (x1.trans x2) (.bl _)
    · cases e3
  · cases e3
theorem sd_dhas (C : CxOk ε T Γ S X) {neg : Bool} {i o : Expr} {ii io : IE} {pos : Pos} (ok : okE o = true) (hi : PE X i (rdE ε Γ ii)) (ho : PE X o (rdE ε Γ io)) : PE X (.Compare i [if neg then .NotIn else .In] [o] pos) (rdE ε Γ (.dhas neg ii io)) := by
  have hu : X.A.units + 1 < cLine := by have := C.hu; omega
  cases neg with
  | true => exact PE.imp (pe_cmp (pc_dnotin hu hi ho) (mark_ok ok)) fun σ H Q h => dhas_key h
  | false => exact PE.imp (pe_cmp (pc_din hu hi ho) (mark_ok ok)) fun σ H Q h => dhas_key h
theorem dhas_bl {neg : Bool} {ii io : IE} {ρ : Slots} {μ μ' : Store} {d : D} (h : evE Γ (.dhas neg ii io) ρ μ = some (d, μ')) : ∃ b, d = .bl b := by
  simp only [evE, Option.bind_eq_some_iff] at h
  obtain ⟨⟨y, μ1⟩, e1, ⟨x, μ2⟩, e2, e3⟩ := h
  split at e3
  · split at e3
    · simp only [Option.map_eq_some_iff] at e3
      obtain ⟨k, ek, e4⟩ := e3
      cases e4; exact ⟨_, rfl⟩
    · cases e3
  · cases e3
theorem st_dhas (C : CxOk ε T Γ S X) {neg : Bool} {i o : Expr} {ii io : IE} {pos : Pos} (ok : okE o = true) (hi : PE X i (rdE ε Γ ii)) (ho : PE X o (rdE ε Γ io)) : PT X (.Compare i [if neg then .NotIn else .In] [o] pos) (rdT ε Γ (.dhas neg ii io)) := by
  have hu : X.A.units + 1 < cLine := by have := C.hu; omega
  have key : ∀ {σ : L2.St} {H : Hp} {Q : Bool → Hp → Prop}, rdT ε Γ (.dhas neg ii io) σ H Q → rdE ε Γ (.dhas neg ii io) σ H fun x H1 => ∃ c, x = .bl c ∧ Q c H1 := fun {σ H Q} ⟨φ, ρ, μ, d, μ', k, R, e, et, q⟩ => by
    refine ⟨φ, ρ, μ, d, μ', R, e, fun φ1 v H1 x1 y1 => ?_⟩
    obtain ⟨b, rfl⟩ := dhas_bl e
    cases y1
    cases et
    exact ⟨_, rfl, q φ1 H1 x1⟩
  cases neg with
  | true => exact PT.imp (pt_cmp (pc_dnotin hu hi ho) (mark_ok ok)) fun σ H Q h => dhas_key (key h)
  | false => exact PT.imp (pt_cmp (pc_din hu hi ho) (mark_ok ok)) fun σ H Q h => dhas_key (key h)
theorem sd_dget (C : CxOk ε T Γ S X) {i o : Expr} {ii io : IE} {pos : Pos} (ok : okE i = true) (ho : PE X o (rdE ε Γ io)) (hi : PE X i (rdE ε Γ ii)) : PE X (.Subscript o i pos) (rdE ε Γ (.dget io ii)) := by
  refine PE.imp (pe_dget (by have := C.hu; omega) ho hi (plain_ix ok)) fun σ H Q ⟨φ, ρ, μ, d, μ', R, e, q⟩ => ?_
  simp only [evE, Option.bind_eq_some_iff] at e
  obtain ⟨⟨x, μ1⟩, e1, ⟨y, μ2⟩, e2, e3⟩ := e
  refine ⟨φ, ρ, μ, x, μ1, R, e1, fun φ1 v1 H1 x1 y1 => ⟨φ1, ρ, μ1, y, μ2, R.step x1, e2, fun φ2 v2 H2 x2 y2 => ?_⟩⟩
  split at e3
  · rename_i n hx
    obtain rfl : x = .ref n := hx
    split at e3
    · rename_i kvs en
      simp only [Option.bind_eq_some_iff, Option.map_eq_some_iff] at e3
      obtain ⟨k, ek, dd, eg, e4⟩ := e3
      cases e4
      cases x2.ext.enc y1 with
      | ref hn =>
        obtain ⟨ks, h1, h2⟩ := dic_at x2.sto hn en
        rw [keyD_ok y2 ek]
        have hv := h2.val (k := k)
        rw [eg] at hv
        obtain ⟨w, hw, hd⟩ := hv
        exact ⟨_, w, rfl, by rw [← hw]; exact DGet.k h1, q φ2 w H2 (x1.trans x2) hd⟩
    · cases e3
  · cases e3
theorem m2_ok {o e f : Expr} {m : Str} {apos cpos : Pos} (ho : objB o = true) (he : okE e = true) (hf : okE f = true) (hl : (apos.endLine == cpos.line) = true) : M2 X o m apos e f cpos := by
  have h1 := star_cons (es := [f]) (env := X.env) he
  have h2 := star_cons (es := []) (env := X.env) hf
  have h3 : starEach ([] : List Expr) X.env = [] := rfl
  refine ⟨base_ok ho, ?_, hl, ?_⟩
  · rw [h1, h2, h3]; rfl
  · rw [h1, h2, h3]; rfl
theorem sd_dgetD (C : CxOk ε T Γ S X) {o i z : Expr} {io ii iz : IE} {apos cpos : Pos} (okO : objB o = true) (oki : okE i = true) (okz : okE z = true) (hl : (apos.endLine == cpos.line) = true) (ho : PE X o (rdE ε Γ io)) (hi : PE X i (rdE ε Γ ii)) (hz : PE X z (rdE ε Γ iz)) :
    PE X (.Call (.Attribute o "get" apos) [i, z] [] cpos) (rdE ε Γ (.dgetD io ii iz)) := by
  refine PE.imp (pe_dget2 (by have := C.hu; omega) ho hi hz (m2_ok okO oki okz hl)) fun σ H Q ⟨φ, ρ, μ, d, μ', R, e, q⟩ => ?_
  simp only [evE, Option.bind_eq_some_iff] at e
  obtain ⟨⟨x, μ1⟩, e1, e2⟩ := e
  refine ⟨φ, ρ, μ, x, μ1, R, e1, fun φ1 v1 H1 x1 y1 => ?_⟩
  split at e2
  · rename_i n hx
    obtain rfl : x = .ref n := hx
    split at e2
    · rename_i kvs0 en0
      simp only [Option.bind_eq_some_iff] at e2
      obtain ⟨⟨y, μ2⟩, e3, ⟨w, μ3⟩, e4, e5⟩ := e2
      have y1' := y1
      cases y1 with
      | ref hn =>
        obtain ⟨ks0, h0, _⟩ := dic_at x1.sto hn en0
        refine ⟨_, rfl, .inl ⟨ks0, .inl h0⟩, φ1, ρ, μ1, y, μ2, R.step x1, e3, fun φ2 v2 H2 x2 y2 => ⟨φ2, ρ, μ2, w, μ3, (R.step x1).step x2, e4, fun φ3 v3 H3 x3 y3 => ?_⟩⟩
        split at e5
        · rename_i kvs en
          simp only [Option.map_eq_some_iff] at e5
          obtain ⟨k, ek, e6⟩ := e5
          cases e6
          cases x3.ext.enc (x2.ext.enc y1') with
          | ref hn3 =>
            obtain ⟨ks, h1, h2⟩ := dic_at x3.sto hn3 en
            rw [keyD_ok (x3.ext.enc y2) ek]
            have hv := h2.val (k := k)
            refine ⟨_, DGet.k h1, ?_⟩
            have xx := (x1.trans x2).trans x3
            cases eg : getK kvs k with
            | none =>
              rw [eg] at hv q
              rw [hv]
              exact q φ3 _ H3 xx y3
            | some dd =>
              rw [eg] at hv q
              obtain ⟨u, hu, hd⟩ := hv
              rw [hu]
              exact q φ3 _ H3 xx hd
        · cases e5
    · cases e2
  · cases e2
theorem sd_dsetd (C : CxOk ε T Γ S X) {o i z : Expr} {io ii iz : IE} {apos cpos : Pos} (okO : objB o = true) (oki : okE i = true) (okz : okE z = true) (hl : (apos.endLine == cpos.line) = true) (ho : PE X o (rdE ε Γ io)) (hi : PE X i (rdE ε Γ ii)) (hz : PE X z (rdE ε Γ iz)) :
    PE X (.Call (.Attribute o "setdefault" apos) [i, z] [] cpos) (rdE ε Γ (.dsetd io ii iz)) := by
  refine PE.imp (pe_dsetd ho hi hz (m2_ok okO oki okz hl)) fun σ H Q ⟨φ, ρ, μ, d, μ', R, e, q⟩ => ?_
  simp only [evE, Option.bind_eq_some_iff] at e
  obtain ⟨⟨x, μ1⟩, e1, e2⟩ := e
  refine ⟨φ, ρ, μ, x, μ1, R, e1, fun φ1 v1 H1 x1 y1 => ?_⟩
  split at e2
  · rename_i n hx
    obtain rfl : x = .ref n := hx
    split at e2
    · rename_i kvs0 en0
      simp only [Option.bind_eq_some_iff] at e2
      obtain ⟨⟨y, μ2⟩, e3, ⟨w, μ3⟩, e4, e5⟩ := e2
      have y1' := y1
      cases y1 with
      | ref hn =>
        obtain ⟨ks0, h0, _⟩ := dic_at x1.sto hn en0
        refine ⟨_, rfl, .inl ⟨ks0, .inl h0⟩, φ1, ρ, μ1, y, μ2, R.step x1, e3, fun φ2 v2 H2 x2 y2 => ⟨φ2, ρ, μ2, w, μ3, (R.step x1).step x2, e4, fun φ3 v3 H3 x3 y3 => ?_⟩⟩
        split at e5
        · rename_i kvs en
          split at e5
          · rename_i hlen
            simp only [Option.map_eq_some_iff] at e5
            obtain ⟨k, ek, e6⟩ := e5
            cases x3.ext.enc (x2.ext.enc y1') with
            | ref hn3 =>
              obtain ⟨ks, h1, h2⟩ := dic_at x3.sto hn3 en
              have hk := keyD_ok (x3.ext.enc y2) ek
              have hv := h2.val (k := k)
              have xx := (x1.trans x2).trans x3
              refine ⟨ks, k, h1, hk, by rw [h2.len]; exact hlen, fun v ev => ?_, fun ev => ?_⟩
              · cases eg : getK kvs k with
                | none => rw [eg] at hv; rw [hv] at ev; cases ev
                | some dd =>
                  rw [eg] at hv e6
                  cases e6
                  obtain ⟨u, hu, hd⟩ := hv
                  rw [hu] at ev; cases ev
                  exact q φ3 _ H3 xx hd
              · cases eg : getK kvs k with
                | some dd => rw [eg] at hv; obtain ⟨u, hu, hd⟩ := hv; rw [hu] at ev; cases ev
                | none =>
                  rw [eg] at e6
                  cases e6
                  have c0 := x3.sto.at_ n _ _ hn3 en
                  have g : Grow H3 (upd H3 _ (.dK (putK ks k v3))) := ⟨fun b xs e => by rw [upd_ne (fun z => by rw [z] at e; exact dk_noT h1 _ e)]; exact e, fun b p u e => by rw [upd_ne (fun z => by rw [z] at e; exact dk_noF h1 _ _ e)]; exact e⟩
                  have hp : putK ks k v3 = ks ++ [(k, v3)] := putK_new _ ev
                  have x4 : Res ε φ3 H3 φ3 (μ3.set n (.dic (kvs ++ [(k, _)]))) (upd H3 _ (.dK (putK ks k v3))) := Res.set x3.sto hn3 (dk_noT h1) (dk_noF h1) (.dic upd_same (by
                    have c1 : EncK ε φ3 H3 [(k, v3)] [(k, d)] := .cons ⟨rfl, y3⟩ .nil
                    have m := (h2.app c1).mono [] g
                    rw [List.append_nil, ← hp] at m
                    exact m))
                  exact q φ3 _ _ (xx.trans x4) (x4.ext.enc y3)
          · cases e5
        · cases e5
    · cases e2
  · cases e2
theorem sd_dcopy (C : CxOk ε T Γ S X) {a : Expr} {ia : IE} {xp pos : Pos} (hg : glB S.sc "dict" = true) (ht : T.look "dict" = .no) (ha : PE X a (rdE ε Γ ia)) (ok : okE a = true) : PE X (.Call (.Name "dict" xp) [a] [] pos) (rdE ε Γ (.dcopy ia)) := by
  have g := C.gl "dict"
  rw [ht] at g
  have rule : CallR X (.type "dict") (fun xs H Q => ∃ p ks, xs = [.ref p] ∧ H p = some (.dK ks) ∧ ∀ l, H l = none → Q (.ref l) (upd H l (.dK ks))) := by
    intro pins s σ H xs us Q I r ⟨p, ks, e, hp, q⟩
    subst e
    obtain ⟨u, rfl, ru⟩ := vals1 r
    cases ru
    exact d_copyOf I (.inl hp) fun l s' hl I' => ⟨.ref l, _, I', rfl, q l hl⟩
  refine PE.imp (pe_callTy rule (glB_ok C hg) g (by decide +kernel) (pa_cons ha pa_nil (star_cons ok)) (by decide +kernel) (by decide +kernel) (star_cons ok) rfl) fun σ H Q ⟨φ, ρ, μ, d, μ', R, e, q⟩ => ?_
  simp only [evE, Option.bind_eq_some_iff] at e
  obtain ⟨⟨x, μ1⟩, e1, e2⟩ := e
  refine ⟨φ, ρ, μ, x, μ1, R, e1, fun φ1 v H1 x1 y1 => ?_⟩
  split at e2
  · rename_i n hx
    obtain rfl : x = .ref n := hx
    split at e2
    · rename_i kvs en
      cases e2
      cases y1 with
      | ref hn =>
        obtain ⟨ks, h1, h2⟩ := dic_at x1.sto hn en
        refine ⟨_, ks, rfl, h1, fun l hl => ?_⟩
        have x2 : Res ε φ1 H1 (φ1 ++ [l]) (μ1 ++ [.dic kvs]) (upd H1 l (.dK ks)) := Res.new x1.sto hl (.dic upd_same (h2.mono [l] (Ex.new hl).grow))
        exact q _ _ _ (x1.trans x2) (.ref (by rw [← x1.sto.len]; simp))
    · cases e2
  · cases e2
end
end FH
end
section
/-! FH7: targets, what is walked, comprehensions. -/
namespace FH
open PySem PySem.Spec PyProof.Rows L2
section
variable {ε : Ev} {T : Tab} {Γ : Env2} {S : SC} {X : Cx} {φ : List Addr} {H : Hp} {μ : Store} {ρ : Slots} {σ : L2.St}

/-! ### names changed -/
theorem ownA_sub {s : Slot} {o : Option V} : (ownA ρ σ).Sublist (ownA (s :: ρ) (o :: σ)) := by
  cases s <;> cases o <;> (try (rename_i v; cases v)) <;> (first | exact List.Sublist.refl _ | exact List.sublist_cons_self _ _ | skip)
  all_goals (first | (rename_i w _; cases w <;> first | exact List.Sublist.refl _ | exact List.sublist_cons_self _ _) | skip)
theorem ownA_skip {s : Slot} {o : Option V} (h : ∀ c, s ≠ .own c) : ownA (s :: ρ) (o :: σ) = ownA ρ σ := by
  cases s with
  | own c => exact absurd rfl (h c)
  | emp => rfl
  | val d => rfl
theorem mem_ownA_cons {s : Slot} {o : Option V} {b : Addr} (h : b ∈ ownA (s :: ρ) (o :: σ)) : b ∈ ownA ρ σ ∨ ∃ c, s = .own c ∧ o = some (.ref b) := by
  cases s with
  | emp => exact .inl h
  | val d => exact .inl h
  | own c =>
    cases o with
    | none => exact .inl h
    | some v =>
      cases v with
      | ref a =>
        simp only [ownA, List.mem_cons] at h
        rcases h with rfl | h
        · exact .inr ⟨c, rfl, rfl⟩
        · exact .inl h
      | _ => exact .inl h
theorem mem_ownA_set {s : Slot} {o : Option V} {b : Addr} : ∀ {ρ : Slots} {σ : L2.St} {i : Nat}, b ∈ ownA (ρ.set i s) (σ.set i o) → b ∈ ownA ρ σ ∨ ∃ c, s = .own c ∧ o = some (.ref b)
  | [], σ, i, h => by simp [ownA] at h
  | s0 :: ρ, [], i, h => by cases i <;> simp [ownA] at h
  | s0 :: ρ, o0 :: σ, 0, h => by
    rcases mem_ownA_cons (ρ := ρ) (σ := σ) h with h | h
    · exact .inl (ownA_cons h)
    · exact .inr h
  | s0 :: ρ, o0 :: σ, i + 1, h => by
    rcases mem_ownA_cons (ρ := ρ.set i s) (σ := σ.set i o) h with h | ⟨c, rfl, rfl⟩
    · rcases mem_ownA_set h with h | h
      · exact .inl (ownA_cons h)
      · exact .inr h
    · exact .inl (by simp [ownA])
theorem nodup_ownA_set {s : Slot} {o : Option V} (h : ∀ c a, s = .own c → o = some (.ref a) → a ∉ ownA ρ σ) : ∀ {i : Nat}, (ownA ρ σ).Nodup → (ownA (ρ.set i s) (σ.set i o)).Nodup := by
  induction ρ generalizing σ with
  | nil => intro i _; simp [ownA]
  | cons s0 ρ ih =>
    cases σ with
    | nil => intro i _; cases i <;> simp [ownA]
    | cons o0 σ =>
      intro i nd
      have nd' : (ownA ρ σ).Nodup := nd.sublist ownA_sub
      have h' : ∀ c a, s = .own c → o = some (.ref a) → a ∉ ownA ρ σ := fun c a e1 e2 z => h c a e1 e2 (ownA_cons z)
      cases i with
      | zero =>
        show (ownA (s :: ρ) (o :: σ)).Nodup
        cases s with
        | emp => exact nd'
        | val d => exact nd'
        | own c =>
          cases o with
          | none => exact nd'
          | some v =>
            cases v with
            | ref a => exact List.nodup_cons.mpr ⟨h' c a rfl rfl, nd'⟩
            | _ => exact nd'
      | succ i =>
        show (ownA (s0 :: ρ.set i s) (o0 :: σ.set i o)).Nodup
        have r := ih h' (i := i) nd'
        cases s0 with
        | emp => exact r
        | val d => exact r
        | own c0 =>
          cases o0 with
          | none => exact r
          | some v =>
            cases v with
            | ref a =>
              refine List.nodup_cons.mpr ⟨fun z => ?_, r⟩
              rcases mem_ownA_set z with z | ⟨c, e1, e2⟩
              · exact (List.nodup_cons.mp (show (a :: ownA ρ σ).Nodup from nd)).1 z
              · exact h c a e1 e2 (by simp [ownA])
            | _ => exact r
theorem Paired.put {α β : Type} {F : α → β → Prop} {a : α} {b : β} (h : F a b) : ∀ {l : List α} {m : List β} {i : Nat}, Paired F l m → Paired F (l.set i a) (m.set i b)
  | _, _, _, .nil => .nil
  | _, _, 0, .cons _ t => .cons h t
  | _, _, i + 1, .cons q t => .cons q (Paired.put h t)
theorem Rel.put {s : Slot} {o : Option V} {i : Nat} (R : Rel ε φ ρ μ σ H) (h : SlotOk ε φ H s o) (n : ∀ c a, s = .own c → o = some (.ref a) → a ∉ ownA ρ σ ∧ a ∉ φ) : Rel ε φ (ρ.set i s) μ (σ.set i o) H := by
  refine ⟨R.sto, Paired.put h R.slots, nodup_ownA_set (fun c a e1 e2 => (n c a e1 e2).1) R.nd, fun a ha => ?_⟩
  rcases mem_ownA_set ha with ha | ⟨c, e1, e2⟩
  · exact R.dj a ha
  · exact (n c a e1 e2).2
theorem Rel.val {v : V} {d : D} {i : Nat} (R : Rel ε φ ρ μ σ H) (h : Enc ε φ H v d) : Rel ε φ (ρ.set i (.val d)) μ (σ.set i (some v)) H := R.put ⟨v, rfl, h⟩ fun _ _ e => nomatch e
theorem Rel.emp {i : Nat} {o : Option V} (R : Rel ε φ ρ μ σ H) : Rel ε φ (ρ.set i .emp) μ (σ.set i o) H := R.put trivial fun _ _ e => nomatch e
theorem Rel.wipe (R : Rel ε φ ρ μ σ H) : ∀ vs : List Nat, Rel ε φ (wipeS ρ vs) μ (L2.wipe σ vs) H
  | [] => R
  | v :: vs => (Rel.wipe R vs).emp
theorem Rel.len (R : Rel ε φ ρ μ σ H) : ρ.length = σ.length := Paired.length R.slots

/-! ### targets -/
mutual
def tgI : Tg → List Nat
  | .nm i => [i]
  | .tp ts => tgsI ts
def tgsI : Tgs → List Nat
  | .nil => []
  | .cons t ts => tgI t ++ tgsI ts
end
structure Out (is : List Nat) (σ σ' : L2.St) : Prop where
  len : σ'.length = σ.length
  out : ∀ i, i ∉ is → σ'[i]? = σ[i]?
theorem Out.refl {is : List Nat} : Out is σ σ := ⟨rfl, fun _ _ => rfl⟩
theorem Out.trans {is js : List Nat} {σ1 σ2 : L2.St} (a : Out is σ σ1) (b : Out js σ1 σ2) : Out (is ++ js) σ σ2 := ⟨b.len.trans a.len, fun i h => by
  simp only [List.mem_append, not_or] at h
  rw [b.out i h.2, a.out i h.1]⟩
def OwnLe (ρ : Slots) (σ : L2.St) (ρ' : Slots) (σ' : L2.St) : Prop := ∀ a ∈ ownA ρ' σ', a ∈ ownA ρ σ
def rdG (ε : Ev) (g : Tg) : TG := fun v σ H Q => ∃ φ ρ μ d ρ', Rel ε φ ρ μ σ H ∧ Enc ε φ H v d ∧ asgT g d ρ = some ρ' ∧ ∀ σ', Rel ε φ ρ' μ σ' H → Out (tgI g) σ σ' → OwnLe ρ σ ρ' σ' → Q σ' H
def rdGs (ε : Ev) (g : Tgs) : TGs := fun vs σ H Q => ∃ φ ρ μ ds ρ', Rel ε φ ρ μ σ H ∧ EncL ε φ H vs ds ∧ asgTs g ds ρ = some ρ' ∧ ∀ σ', Rel ε φ ρ' μ σ' H → Out (tgsI g) σ σ' → OwnLe ρ σ ρ' σ' → Q σ' H
theorem PG.imp {e : Expr} {t t' : TG} (h : PG X e t) (k : ∀ v σ H Q, t' v σ H Q → t v σ H Q) : PG X e t' := ⟨fun pins s σ H v u Q I r q => h.run pins s σ H v u Q I r (k v σ H Q q)⟩
theorem PGs.imp {e : List Expr} {t t' : TGs} (h : PGs X e t) (k : ∀ v σ H Q, t' v σ H Q → t v σ H Q) : PGs X e t' := ⟨fun pins s σ H v u Q I r q => h.run pins s σ H v u Q I r (k v σ H Q q)⟩
theorem out_set {i : Nat} {o : Option V} : Out [i] σ (σ.set i o) := ⟨by simp, fun j h => by
  rw [List.getElem?_set_ne (fun e => h (by simp [e]))]⟩
theorem own_set {s : Slot} {o : Option V} {i : Nat} (n : ∀ c, s ≠ .own c) : OwnLe ρ σ (ρ.set i s) (σ.set i o) := fun a h => by
  rcases mem_ownA_set h with h | ⟨c, e, _⟩
  · exact h
  · exact absurd e (n c)
def locB (S : SC) (x : Str) : Bool := match S.sc.names.lookup x with
  | some .local => true | some .cell => (match S.bs with | none => true | some sc => sc.names.lookup x == some .cell) | _ => false
theorem locB_ok (C : CxOk ε T Γ S X) {x : Str} (h : locB S x = true) : L2.Loc X.env.scope x ∧ (X.fn x = true ∨ X.env.scope.names.lookup x = some .local) := by
  unfold locB at h
  rw [C.sc]
  unfold L2.Loc
  split at h
  · rename_i e; exact ⟨.inl e, .inr e⟩
  · rename_i e
    refine ⟨.inr e, .inl ?_⟩
    have q := C.fn x
    split at h
    · rename_i eb; rw [eb] at q; exact q
    · rename_i sc eb
      rw [eb] at q
      rw [q]; exact h
  · cases h
theorem sg_nm (C : CxOk ε T Γ S X) {i : Nat} {x : Str} {pos : Pos} (h : S.N[i]? = some x) (hl : locB S x = true) : PG X (.Name x pos) (rdG ε (.nm i)) := by
  obtain ⟨h1, h2⟩ := locB_ok C hl
  refine PG.imp (pg_name (i := i) (by rw [C.N]; exact C.nd) (by rw [C.N]; exact h) h1 h2) fun v σ H Q ⟨φ, ρ, μ, d, ρ', R, hv, e, q⟩ => ?_
  unfold asgT at e
  split at e
  · cases e
    exact q _ (R.val hv) out_set (own_set fun _ z => nomatch z)
  · cases e
theorem sgs_nil : PGs X [] (rdGs ε .nil) := by
  refine PGs.imp pgs_nil fun vs σ H Q ⟨φ, ρ, μ, ds, ρ', R, hv, e, q⟩ => ?_
  cases ds with
  | nil => cases hv; cases e; exact ⟨rfl, q σ R .refl fun _ z => z⟩
  | cons d ds => cases e
def tgE : Expr → Bool
  | .Name .. => true | .Tuple .. => true | _ => false
theorem each_cons {e : Expr} {es : List Expr} {env : Env} (h : tgE e = true) : (assignEach (e :: es) env).map (·.2) = assign e env :: (assignEach es env).map (·.2) := by
  cases e <;> first | rfl | (simp [tgE] at h)
theorem each_len : ∀ {es : List Expr} {env : Env}, es.all tgE = true → (assignEach es env).length = es.length ∧ (assignEach es env).findIdx? (·.1) = none
  | [], env, _ => ⟨rfl, rfl⟩
  | e :: es, env, h => by
    simp only [List.all_cons, Bool.and_eq_true] at h
    obtain ⟨h1, h2⟩ := each_len (env := env) h.2
    have key : assignEach (e :: es) env = (false, assign e env) :: assignEach es env := by
      cases e <;> first | rfl | (simp [tgE] at h)
    rw [key]
    refine ⟨by simp [h1], ?_⟩
    simp [List.findIdx?_cons, h2]
theorem sgs_cons {e : Expr} {es : List Expr} {t : Tg} {ts : Tgs} (ht : tgE e = true) (h1 : PG X e (rdG ε t)) (h2 : PGs X es (rdGs ε ts)) : PGs X (e :: es) (rdGs ε (.cons t ts)) := by
  refine PGs.imp (pgs_cons h1 h2 (each_cons ht)) fun vs σ H Q ⟨φ, ρ, μ, ds, ρ', R, hv, e, q⟩ => ?_
  cases ds with
  | nil => cases e
  | cons d ds =>
    cases hv with
    | cons hv1 hv2 =>
      simp only [asgTs, Option.bind_eq_some_iff] at e
      obtain ⟨ρ1, e1, e2⟩ := e
      refine ⟨_, _, rfl, φ, ρ, μ, d, ρ1, R, hv1, e1, fun σ1 R1 o1 w1 => ⟨φ, ρ1, μ, ds, ρ', R1, hv2, e2, fun σ2 R2 o2 w2 => ?_⟩⟩
      exact q σ2 R2 (o1.trans o2) fun a h => w1 a (w2 a h)
theorem asgTs_len : ∀ {ts : Tgs} {ds : List D} {ρ ρ' : Slots} {n : Nat} (es : List Expr), asgTs ts ds ρ = some ρ' → (∀ _ : True, True) → True
  | _, _, _, _, _, _, _, _ => trivial
def tgsN : Tgs → Nat
  | .nil => 0
  | .cons _ ts => tgsN ts + 1
theorem asgTs_n : ∀ {ts : Tgs} {ds : List D} {ρ ρ' : Slots}, asgTs ts ds ρ = some ρ' → ds.length = tgsN ts
  | .nil, [], _, _, _ => rfl
  | .nil, _ :: _, _, _, h => by cases h
  | .cons _ _, [], _, _, h => by cases h
  | .cons t ts, d :: ds, _, _, h => by
    simp only [asgTs, Option.bind_eq_some_iff] at h
    obtain ⟨_, _, h⟩ := h
    simp [tgsN, asgTs_n h]
theorem sg_tp (C : CxOk ε T Γ S X) {es : List Expr} {ts : Tgs} {j : Nat} {pos : Pos} (hn : es.length = tgsN ts) (ht : es.all tgE = true) (h : PGs X es (rdGs ε ts)) : PG X (.Tuple es j pos) (rdG ε (.tp ts)) := by
  obtain ⟨l1, l2⟩ := each_len (env := X.env) ht
  refine PG.imp (pg_tup C.calm h l1 l2) fun v σ H Q ⟨φ, ρ, μ, d, ρ', R, hv, e, q⟩ => ?_
  cases d <;> (first | (exfalso; simp [asgT] at e; done) | skip)
  rename_i ds
  simp only [asgT] at e
  cases hv with
  | tup h1 h2 => exact ⟨_, _, rfl, by rw [← C.K]; exact h1, by rw [h2.length, asgTs_n e, hn], φ, ρ, μ, ds, ρ', R, h2, e, q⟩

/-! ### what is walked -/
/-- the iterator yields these, whatever else happens meanwhile -/
structure ItOk (ε : Ev) (φ : List Addr) (H : Hp) (ds : List D) (J : It) : Prop where
  go : ∀ H1, Grow H H1 → ∀ (i : Nat) (d : D), ds[i]? = some d → J.go i H1 ∧ ∀ x H2, J.yld i H1 x H2 → Ex H1 H2 ∧ Enc ε φ H2 x d
  stop : ∀ H1, Grow H H1 → J.stop ds.length H1
def SrOk (ε : Ev) (φ : List Addr) (H : Hp) : Sr → It → Prop
  | .items ds, J => ItOk ε φ H ds J
  | .cel n, J => ∃ a, φ[n]? = some a ∧ J = Itl ε.K a
def rdS (ε : Ev) (Γ : Env2) (s : Src) : TI := fun σ H R => ∃ φ ρ μ sr μ', Rel ε φ ρ μ σ H ∧ evSrc Γ s ρ μ = some (sr, μ') ∧ ∀ φ' J H', Res ε φ H φ' μ' H' → SrOk ε φ' H' sr J → R J H'
theorem PI.imp {tg e : Expr} {t t' : TI} (h : PI X tg e t) (k : ∀ σ H Q, t' σ H Q → t σ H Q) : PI X tg e t' := ⟨fun pins s σ H Q I q => h.run pins s σ H Q I (k σ H Q q)⟩
theorem PI.or {tg e : Expr} {t t' : TI} (h : PI X tg e t) (k : PI X tg e t') : PI X tg e (fun σ H Q => t σ H Q ∨ t' σ H Q) := ⟨fun pins s σ H Q I q => q.elim (fun q => h.run pins s σ H Q I q) fun q => k.run pins s σ H Q I q⟩
theorem it_list {a : Addr} {vs : List V} {ds : List D} (h : FzL ε.K H a vs) (hl : EncL ε φ H vs ds) : ItOk ε φ H ds (Itl ε.K a) := by
  refine ⟨fun H1 g i d e => ?_, fun H1 g => ⟨vs, (FzL.grow g h).rd.sq, by rw [hl.length]; exact Nat.le_refl _⟩⟩
  have hl1 := hl.grow g
  obtain ⟨v, h1, h2⟩ := hl1.get e
  have q : SqL ε.K H1 a vs := (FzL.grow g h).rd.sq
  refine ⟨⟨vs, v, q, h1⟩, fun x H2 ⟨e2, y⟩ => ?_⟩
  subst e2
  have := y vs q
  rw [h1] at this; cases this
  exact ⟨.refl, h2⟩
theorem it_tup {a : Addr} {vs : List V} {ds : List D} (h : SqT ε.K H a vs) (hl : EncL ε φ H vs ds) : ItOk ε φ H ds (Itt ε.K a) := by
  refine ⟨fun H1 g i d e => ?_, fun H1 g => ⟨vs, SqT.grow g h, by rw [hl.length]; exact Nat.le_refl _⟩⟩
  have hl1 := hl.grow g
  obtain ⟨v, h1, h2⟩ := hl1.get e
  have q := SqT.grow g h
  refine ⟨⟨vs, v, q, h1⟩, fun x H2 ⟨e2, y⟩ => ?_⟩
  subst e2
  have := y vs q
  rw [h1] at this; cases this
  exact ⟨.refl, h2⟩
theorem it_str {z : Str} : ItOk ε φ H (z.cps.toList.map fun c => D.str ⟨#[c]⟩) (Its z) := by
  refine ⟨fun H1 g i d e => ?_, fun H1 g => by show z.cps.size ≤ _; simp⟩
  rw [List.getElem?_map] at e
  cases ec : z.cps.toList[i]? with
  | none => rw [ec] at e; cases e
  | some c =>
    rw [ec] at e; cases e
    have hi := (List.getElem?_eq_some_iff.mp ec).1
    refine ⟨by show i < z.cps.size; simpa using hi, fun x H2 ⟨e2, c', e3, e4⟩ => ?_⟩
    subst e2; subst e4
    have : z.cps[i]? = some c := by simpa using ec
    rw [this] at e3; cases e3
    exact ⟨.refl, .str _⟩
theorem it_range {lo : Int} {n : Nat} : ItOk ε φ H (rangeD lo n) (Itr lo n) := by
  refine ⟨fun H1 g i d e => ?_, fun H1 g => by show n ≤ _; simp [rangeD]⟩
  unfold rangeD at e
  rw [List.getElem?_map] at e
  cases ec : (List.range n)[i]? with
  | none => rw [ec] at e; cases e
  | some k =>
    rw [ec] at e; cases e
    have hi := (List.getElem?_eq_some_iff.mp ec).1
    rw [List.length_range] at hi
    have hk : k = i := by
      rw [List.getElem?_range hi] at ec; cases ec; rfl
    subst hk
    refine ⟨hi, fun x H2 ⟨e2, e3⟩ => ?_⟩
    subst e2; subst e3
    exact ⟨.refl, .int _⟩
theorem ss_it (C : CxOk ε T Γ S X) {tg e : Expr} {ie : IE} (h : PE X e (rdE ε Γ ie)) : PI X tg e (rdS ε Γ (.it ie)) := by
  refine PI.imp (FH.PI.or (pi_list h) (FH.PI.or (pi_tup h) (pi_str h))) fun σ H R ⟨φ, ρ, μ, sr, μ', Rl, e, q⟩ => ?_
  simp only [evSrc, Option.bind_eq_some_iff, Option.map_eq_some_iff] at e
  obtain ⟨⟨x, μ1⟩, e1, ds, e2, e3⟩ := e
  cases e3
  cases x <;> (first | (exfalso; simp [itemsD] at e2; done) | skip)
  · cases e2
    exact .inr (.inr ⟨φ, ρ, μ, _, _, Rl, e1, fun φ1 v H1 x1 y1 => by cases y1; exact ⟨_, rfl, q φ1 _ H1 x1 it_str⟩⟩)
  · cases e2
    refine .inr (.inl ⟨φ, ρ, μ, _, _, Rl, e1, fun φ1 v H1 x1 y1 => ?_⟩)
    cases y1 with
    | tup h1 h2 => exact ⟨_, rfl, ⟨_, by rw [← C.K]; exact h1⟩, q φ1 _ H1 x1 (by rw [← C.K]; exact it_tup h1 h2)⟩
  · cases e2
    refine .inl ⟨φ, ρ, μ, _, _, Rl, e1, fun φ1 v H1 x1 y1 => ?_⟩
    cases y1 with
    | lst h1 h2 => exact ⟨_, rfl, ⟨_, (C.K ▸ h1.rd.sq)⟩, q φ1 _ H1 x1 (by rw [← C.K]; exact it_list h1 h2)⟩
theorem ss_cel (C : CxOk ε T Γ S X) {tg e : Expr} {ie : IE} (h : PE X e (rdE ε Γ ie)) : PI X tg e (rdS ε Γ (.cel ie)) := by
  refine PI.imp (pi_list h) fun σ H R ⟨φ, ρ, μ, sr, μ', Rl, e, q⟩ => ?_
  simp only [evSrc, Option.bind_eq_some_iff] at e
  obtain ⟨⟨x, μ1⟩, e1, e2⟩ := e
  refine ⟨φ, ρ, μ, x, μ1, Rl, e1, fun φ1 v H1 x1 y1 => ?_⟩
  split at e2
  · rename_i n hx
    obtain rfl : x = .ref n := hx
    split at e2
    · rename_i ds en
      cases e2
      cases y1 with
      | ref hn =>
        have c := x1.sto.at_ n _ _ hn en
        cases c with
        | lst c1 c2 => exact ⟨_, rfl, ⟨_, SqL.of c1⟩, q φ1 _ H1 x1 (by rw [← C.K]; exact ⟨_, hn, rfl⟩)⟩
    · cases e2
  · cases e2
theorem ss_range1 (C : CxOk ε T Γ S X) {tg a : Expr} {ia : IE} {xp pos : Pos} (hg : glB S.sc "range" = true) (ht : T.look "range" = .no) (ha : PE X a (rdE ε Γ ia)) (ok : okE a = true) : PI X tg (.Call (.Name "range" xp) [a] [] pos) (rdS ε Γ (.range1 ia)) := by
  have g := C.gl "range"
  rw [ht] at g
  refine PI.imp (pi_range1 (glB_ok C hg) g (pa_cons ha pa_nil (star_cons ok)) (star_cons ok)) fun σ H R ⟨φ, ρ, μ, sr, μ', Rl, e, q⟩ => ?_
  simp only [evSrc, Option.bind_eq_some_iff] at e
  obtain ⟨⟨x, μ1⟩, e1, e2⟩ := e
  refine ⟨φ, ρ, μ, x, μ1, Rl, e1, fun φ1 v H1 x1 y1 => ?_⟩
  split at e2
  · rename_i j hx
    obtain rfl : x = .int j := hx
    split at e2
    · rename_i hz
      cases e2
      cases y1
      exact ⟨j, rfl, hz.1, hz.2, q φ1 _ H1 x1 it_range⟩
    · cases e2
  · cases e2
theorem ss_range2 (C : CxOk ε T Γ S X) {tg a b : Expr} {ia ib : IE} {xp pos : Pos} (hg : glB S.sc "range" = true) (ht : T.look "range" = .no) (ha : PE X a (rdE ε Γ ia)) (hb : PE X b (rdE ε Γ ib)) (ok : okE a = true) (ok2 : okE b = true) :
    PI X tg (.Call (.Name "range" xp) [a, b] [] pos) (rdS ε Γ (.range2 ia ib)) := by
  have g := C.gl "range"
  rw [ht] at g
  have st2 : starEach [b] X.env = [(false, eval b X.env)] := star_cons ok2
  have st1 : starEach [a, b] X.env = [(false, eval a X.env), (false, eval b X.env)] := by rw [star_cons ok, st2]
  refine PI.imp (pi_range2 (glB_ok C hg) g (pa_cons ha (pa_cons hb pa_nil (star_cons ok2)) (star_cons ok)) st1 st2) fun σ H R ⟨φ, ρ, μ, sr, μ', Rl, e, q⟩ => ?_
  simp only [evSrc, Option.bind_eq_some_iff] at e
  obtain ⟨⟨x, μ1⟩, e1, ⟨y, μ2⟩, e2, e3⟩ := e
  refine ⟨φ, ρ, μ, x, μ1, Rl, e1, fun φ1 v H1 x1 y1 => ⟨φ1, ρ, μ1, y, μ2, Rl.step x1, e2, fun φ2 w H2 x2 y2 => ?_⟩⟩
  split at e3
  · rename_i i j hx hy
    obtain rfl : x = .int i := hx
    obtain rfl : y = .int j := hy
    split at e3
    · rename_i hz
      cases e3
      cases y1
      cases y2
      exact ⟨i, j, rfl, hz, q φ2 _ H2 (x1.trans x2) it_range⟩
    · cases e3
  · cases e3
theorem ss_enum (C : CxOk ε T Γ S X) {a : Expr} {ia : IE} {xp pos tpos : Pos} {elts : List Expr} {kk : Nat} (hg : glB S.sc "enumerate" = true) (ht : T.look "enumerate" = .no) (ha : PE X a (rdE ε Γ ia)) (ok : okE a = true) :
    PI X (.Tuple elts kk tpos) (.Call (.Name "enumerate" xp) [a] [] pos) (rdS ε Γ (.enum ia)) := by
  have g := C.gl "enumerate"
  rw [ht] at g
  refine PI.imp (pi_enum (glB_ok C hg) g (pa_cons ha pa_nil (star_cons ok)) (star_cons ok)) fun σ H R ⟨φ, ρ, μ, sr, μ', Rl, e, q⟩ => ?_
  simp only [evSrc, Option.bind_eq_some_iff] at e
  obtain ⟨⟨x, μ1⟩, e1, e2⟩ := e
  refine ⟨φ, ρ, μ, x, μ1, Rl, e1, fun φ1 v H1 x1 y1 => ?_⟩
  split at e2
  · rename_i ds hx
    obtain rfl : x = .lst ds := hx
    cases e2
    cases y1 with
    | lst h1 h2 =>
      rename_i a vs
      refine ⟨_, vs, rfl, (C.K ▸ h1.rd.sq), q φ1 _ H1 x1 ?_⟩
      refine ⟨fun H2 gr i d e => ?_, fun H2 gr => ⟨vs, (C.K ▸ (FzL.grow gr h1).rd.sq), by simp [h2.length]⟩⟩
      rw [List.getElem?_map, List.getElem?_zipIdx] at e
      cases ed : ds[i]? with
      | none => rw [ed] at e; cases e
      | some c =>
        rw [ed] at e
        simp at e
        subst e
        obtain ⟨w, hw1, hw2⟩ := (h2.grow gr).get ed
        have hq : SqL X.K H2 a vs := (C.K ▸ (FzL.grow gr h1).rd.sq)
        refine ⟨⟨vs, w, hq, hw1⟩, fun z H3 ⟨p, y, e1, e2, e3, e4⟩ => ?_⟩
        subst e1; subst e3
        have := e4 vs hq
        rw [hw1] at this; cases this
        have gx : Ex H2 (upd H2 p (.tup [.int (i : Nat), w])) := Ex.new e2
        exact ⟨gx, .tup (SqT.of upd_same) (.cons (.int _) (.cons (hw2.grow gx.grow) .nil))⟩
  · cases e2
theorem ss_zip (C : CxOk ε T Γ S X) {a b : Expr} {ia ib : IE} {xp pos tpos : Pos} {elts : List Expr} {kk : Nat} (hg : glB S.sc "zip" = true) (ht : T.look "zip" = .no) (ha : PE X a (rdE ε Γ ia)) (hb : PE X b (rdE ε Γ ib)) (ok : okE a = true) (ok2 : okE b = true) :
    PI X (.Tuple elts kk tpos) (.Call (.Name "zip" xp) [a, b] [] pos) (rdS ε Γ (.zip ia ib)) := by
  have g := C.gl "zip"
  rw [ht] at g
  refine PI.imp (pi_zip (glB_ok C hg) g (pa_cons ha (pa_cons hb pa_nil (star_cons ok2)) (star_cons ok)) (star_cons ok) (star_plain (by simp [ok2]))) fun σ H R ⟨φ, ρ, μ, sr, μ', Rl, e, q⟩ => ?_
  simp only [evSrc, Option.bind_eq_some_iff] at e
  obtain ⟨⟨x, μ1⟩, e1, ⟨y, μ2⟩, e2, e3⟩ := e
  refine ⟨φ, ρ, μ, x, μ1, Rl, e1, fun φ1 v H1 x1 y1 => ⟨φ1, ρ, μ1, y, μ2, Rl.step x1, e2, fun φ2 w H2 x2 y2 => ?_⟩⟩
  split at e3
  · rename_i cs ds hx hy
    obtain rfl : x = .lst cs := hx
    obtain rfl : y = .lst ds := hy
    cases e3
    have y1 := x2.ext.enc y1
    cases y1 with
    | lst h1 h2 =>
      cases y2 with
      | lst k1 k2 =>
        rename_i a vs b ws
        refine ⟨_, _, vs, ws, rfl, (C.K ▸ h1.rd.sq), (C.K ▸ k1.rd.sq), q φ2 _ H2 (x1.trans x2) ?_⟩
        refine ⟨fun H3 gr i d e => ?_, fun H3 gr => ⟨vs, ws, (C.K ▸ (FzL.grow gr h1).rd.sq), (C.K ▸ (FzL.grow gr k1).rd.sq), ?_⟩⟩
        · rw [List.getElem?_map] at e
          cases ed : (cs.zip ds)[i]? with
          | none => rw [ed] at e; cases e
          | some c =>
            rw [ed] at e
            cases e
            obtain ⟨ec, ed'⟩ := List.getElem?_zip_eq_some.mp ed
            obtain ⟨w1, hw1, hw2⟩ := (h2.grow gr).get ec
            obtain ⟨w2, kw1, kw2⟩ := (k2.grow gr).get ed'
            have hq : SqL X.K H3 a vs := (C.K ▸ (FzL.grow gr h1).rd.sq)
            have kq : SqL X.K H3 b ws := (C.K ▸ (FzL.grow gr k1).rd.sq)
            refine ⟨⟨vs, ws, w1, w2, hq, kq, hw1, kw1⟩, fun z H4 ⟨p, y, z', e1, e2, e3, e4, e5⟩ => ?_⟩
            subst e1; subst e3
            have := e4 vs hq
            rw [hw1] at this; cases this
            have := e5 ws kq
            rw [kw1] at this; cases this
            have gx : Ex H3 (upd H3 p (.tup [w1, w2])) := Ex.new e2
            exact ⟨gx, .tup (SqT.of upd_same) (.cons (hw2.grow gx.grow) (.cons (kw2.grow gx.grow) .nil))⟩
        · have l1 := h2.length
          have l2 := k2.length
          simp only [List.length_map, List.length_zip]
          omega
  · cases e3
end
end FH
end
section
/-! FH8: comprehensions. -/
namespace FH
open PySem PySem.Spec PyProof.Rows L2
section
variable {ε : Ev} {T : Tab} {Γ : Env2} {S : SC} {X : Cx}
theorem wipe_get {σ : L2.St} {i : Nat} : ∀ {vs : List Nat}, (L2.wipe σ vs)[i]? = if i ∈ vs then (if i < σ.length then some none else none) else σ[i]?
  | [] => by simp [L2.wipe]
  | v :: vs => by
    have ih := @wipe_get σ i vs
    unfold L2.wipe
    by_cases h : v = i
    · subst h
      rw [List.getElem?_set_self']
      rw [if_pos List.mem_cons_self]
      have hl := L2.wipe_length σ vs
      by_cases hv : v < σ.length
      · rw [if_pos hv]
        have : v < (L2.wipe σ vs).length := by omega
        simp [this]
      · rw [if_neg hv]
        simp; omega
    · rw [List.getElem?_set_ne h, ih]
      by_cases hm : i ∈ vs
      · rw [if_pos hm, if_pos (List.mem_cons_of_mem _ hm)]
      · rw [if_neg hm, if_neg (by simp only [List.mem_cons, not_or]; exact ⟨fun e => h e.symm, hm⟩)]
theorem wipe_out {σ σ' : L2.St} {is vs : List Nat} (h : Out is (L2.wipe σ vs) σ') (sub : ∀ i ∈ is, i ∈ vs) : L2.wipe σ' vs = L2.wipe σ vs := by
  apply List.ext_getElem?
  intro i
  have hl := h.len
  rw [L2.wipe_length] at hl
  rw [wipe_get, wipe_get, hl]
  by_cases hm : i ∈ vs
  · rw [if_pos hm, if_pos hm]
  · rw [if_neg hm, if_neg hm, h.out i (fun z => hm (sub i z)), wipe_get, if_neg hm]
def rdC (ε : Ev) (Γ : Env2) (c : IO) : TT := fun σ H Q => ∃ φ ρ μ k μ', Rel ε φ ρ μ σ H ∧ evC Γ c ρ μ = some (k, μ') ∧ ∀ φ' H', Res ε φ H φ' μ' H' → Q k H'
theorem PTs.imp {e : List Expr} {t t' : TT} (h : PTs X e t) (k : ∀ σ H Q, t' σ H Q → t σ H Q) : PTs X e t' := ⟨fun pins s σ H Q I q => h.run pins s σ H Q I (k σ H Q q)⟩
theorem sc_no : PTs X [] (rdC ε Γ .no) := PTs.imp pts_nil fun σ H Q ⟨φ, ρ, μ, k, μ', R, e, q⟩ => by cases e; exact q φ H (.refl R.sto)
theorem sc_som {e : Expr} {ie : IE} (h : PT X e (rdT ε Γ ie)) : PTs X [e] (rdC ε Γ (.som ie)) := PTs.imp (pts_one h) fun σ H Q ⟨φ, ρ, μ, k, μ', R, e, q⟩ => by
  simp only [evC, Option.bind_eq_some_iff, Option.map_eq_some_iff] at e
  obtain ⟨⟨d, μ1⟩, e1, b, e2, e3⟩ := e
  cases e3
  exact ⟨φ, ρ, μ, d, _, k, R, e1, e2, q⟩
/-- the list that grows is written -/
theorem grow_lst {H : Hp} {D : Addr} {xs ys : List V} (h : H D = some (.lst xs)) : Grow H (upd H D (.lst ys)) :=
  ⟨fun b zs e => by rw [upd_ne (fun z => by rw [z, h] at e; cases e)]; exact e, fun b q u e => by rw [upd_ne (fun z => by rw [z, h] at e; cases e)]; exact e⟩
theorem Res.upd {φ φ' : List Addr} {H H' : Hp} {μ' : Store} {D : Addr} {xs ys : List V} (x : Res ε φ H φ' μ' H') (h : H' D = some (.lst xs)) (out : D ∉ φ') (free : H D = none) : Res ε φ H φ' μ' (L2.upd H' D (.lst ys)) := by
  have ne : ∀ b u, H b = some u → b ≠ D := fun b u e z => by rw [z, free] at e; cases e
  have g := grow_lst (ys := ys) h
  obtain ⟨⟨⟨p2, e2, f2⟩, gr, kp, th⟩, S⟩ := x
  refine ⟨⟨⟨p2, e2, f2⟩, gr.trans g, fun b u e nb => ?_, fun b e z => ?_⟩, ⟨S.len, S.nd, fun m a c e1 e2 => ?_⟩⟩
  · rw [upd_ne (ne b u e)]; exact kp b u e nb
  · by_cases hb : b = D
    · rw [hb, upd_same] at z; cases z
    · rw [upd_ne hb] at z; exact th b e z
  · have q := (S.at_ m a c e1 e2).mono [] g fun u e => by rw [upd_ne (fun z => out (by rw [← z]; exact List.mem_of_getElem? e1))]; exact e
    rwa [List.append_nil] at q
theorem Res.outs {φ φ' : List Addr} {H H' : Hp} {μ' : Store} {D : Addr} {o : HO} (x : Res ε φ H φ' μ' H') (h : H D = some o) (out : D ∉ φ) : D ∉ φ' ∧ H' D = some o := by
  refine ⟨fun z => ?_, x.ext.keep D o h out⟩
  obtain ⟨p2, rfl, f2⟩ := x.ext.more
  rcases List.mem_append.mp z with z | z
  · exact out z
  · rw [f2 D z] at h; cases h
def consO : Option D → List D → List D
  | some y, zs => y :: zs
  | none, zs => zs
def snocO : Option D → List D → List D
  | some y, a => a ++ [y]
  | none, a => a
/-- one turn of a comprehension -/
def turnC (Γ : Env2) (g : Tg) (ρ0 : Slots) (c : IO) (e : IE) : D → Store → Option (Option D × Store) := fun x μ => (asgT g x ρ0).bind fun ρ' => (evC Γ c ρ' μ).bind fun k =>
  if k.1 then (evE Γ e ρ' k.2).map fun q => (some q.1, q.2) else some (none, k.2)
theorem turn_read {g : Tg} {own : List (Str × Nat)} {c : IO} {e : IE} (sub : ∀ i ∈ tgI g, i ∈ own.map (·.2)) {φ φi : List Addr} {H Hi H' : Hp} {ρ : Slots} {μ μi μ2 : Store} {σ : L2.St} {d : D} {o : Option D} {x : V} {D : Addr} {accV : List V} {accD : List FH.D} {Nx : Hp → Prop}
    (R : Rel ε φ ρ μ σ H) (xi : Res ε φ H φi μi Hi) (free : H D = none) (hD : Hi D = some (.lst accV)) (out : D ∉ φi) (hacc : EncL ε φi Hi accV accD) (hl : accD.length < sizeLine) (hx : Ex Hi H') (hv : Enc ε φi H' x d)
    (ht : turnC Γ g (wipeS ρ (own.map (·.2))) c e d μi = some (o, μ2))
    (nx : ∀ φ4 H4 accV4, Res ε φ H φ4 μ2 H4 → Grow Hi H4 → H4 D = some (.lst accV4) → D ∉ φ4 → (∃ p2, φ4 = φi ++ p2) → EncL ε φ4 H4 accV4 (snocO o accD) → Nx H4) :
    rdG ε g x (L2.wipe σ (own.map (·.2))) H' fun σ2 H2 => L2.wipe σ2 (own.map (·.2)) = L2.wipe σ (own.map (·.2)) ∧ rdC ε Γ c σ2 H2 fun b H3 =>
      if b = true then rdE ε Γ e σ2 H3 fun y H4 => ∃ acc, H4 D = some (.lst acc) ∧ acc.length < sizeLine ∧ Nx (upd H4 D (.lst (acc ++ [y]))) else Nx H3 := by
  unfold turnC at ht
  simp only [Option.bind_eq_some_iff] at ht
  obtain ⟨ρ', e1, ⟨k, μ3⟩, e2, e3⟩ := ht
  have x0 : Res ε φi Hi φi μi H' := .ex xi.sto hx
  refine ⟨φi, _, μi, d, ρ', ((R.step xi).step x0).wipe _, hv, e1, fun σ2 R2 o2 w2 => ⟨wipe_out o2 sub, φi, ρ', μi, k, μ3, R2, e2, fun φ3 H3 x3 => ?_⟩⟩
  have hD' : H' D = some (.lst accV) := hx D _ hD
  obtain ⟨out3, hD3⟩ := x3.outs hD' out
  have xx := (xi.trans x0).trans x3
  have g3 : Grow Hi H3 := hx.grow.trans x3.ext.grow
  cases k with
  | false =>
    simp at e3
    obtain ⟨rfl, rfl⟩ := e3
    simp only [Bool.false_eq_true, if_false]
    exact nx φ3 H3 accV xx g3 hD3 out3 (x3.ext.more.imp fun _ h => h.1) ((x0.trans x3).ext.encL hacc)
  | true =>
    simp only [if_true, Option.map_eq_some_iff] at e3
    obtain ⟨⟨y, μ4⟩, e4, e5⟩ := e3
    cases e5
    simp only [if_true]
    refine ⟨φ3, ρ', μ3, y, _, R2.step x3, e4, fun φ4 v H4 x4 y4 => ⟨accV, ?_, ?_, ?_⟩⟩
    · exact (x4.outs hD3 out3).2
    · rw [hacc.length]; exact hl
    · obtain ⟨out4, hD4⟩ := x4.outs hD3 out3
      have g4 := grow_lst (ys := accV ++ [v]) hD4
      have ha : EncL ε φ4 H4 (accV ++ [v]) (accD ++ [y]) := ((x0.trans x3).trans x4).ext.encL hacc |>.app (.cons y4 .nil)
      exact nx φ4 _ _ ((xx.trans x4).upd hD4 out4 free) ((g3.trans x4.ext.grow).trans g4) upd_same out4 (by
        obtain ⟨p3, rfl, _⟩ := x3.ext.more
        obtain ⟨p4, rfl, _⟩ := x4.ext.more
        exact ⟨p3 ++ p4, by rw [List.append_assoc]⟩) (ha.grow g4)
theorem loopC_cons {f : D → Store → Option (Option D × Store)} {x : D} {xs ys : List D} {μ μ' : Store} (h : loopC f (x :: xs) μ = some (ys, μ')) :
    ∃ o μ1 zs, f x μ = some (o, μ1) ∧ loopC f xs μ1 = some (zs, μ') ∧ ys = consO o zs := by
  simp only [loopC, Option.bind_eq_some_iff] at h
  obtain ⟨⟨o, μ1⟩, e1, ⟨zs, μ2⟩, e2, e3⟩ := h
  cases e3
  exact ⟨o, μ1, zs, e1, e2, by cases o <;> rfl⟩
theorem acc_next {o : Option D} {a zs ds ys : List D} (h : a ++ ys = ds) (hy : ys = consO o zs) : snocO o a ++ zs = ds := by
  subst hy
  cases o with
  | none => exact h
  | some y => simpa [snocO, consO] using h
theorem acc_len {o : Option D} {a : List D} {i : Nat} (h : a.length ≤ i) : (snocO o a).length ≤ i + 1 := by
  cases o with
  | none => exact Nat.le_succ_of_le h
  | some y => simpa [snocO] using h
theorem comp_read {g : Tg} {own : List (Str × Nat)} {s : Src} {c : IO} {e : IE} (sub : ∀ i ∈ tgI g, i ∈ own.map (·.2)) {σ : L2.St} {H : Hp} {Q : VK} (h : rdF ε Γ (.comp g own s c e) σ H Q) :
    tLc (rdS ε Γ s) (rdG ε g) (rdC ε Γ c) (rdE ε Γ e) (own.map (·.2)) σ H Q := by
  obtain ⟨φ, ρ, μ, ds, μ', R, ev, q⟩ := h
  simp only [evF, Option.bind_eq_some_iff] at ev
  obtain ⟨⟨sr, μ1⟩, e1, e2⟩ := ev
  refine ⟨φ, ρ, μ, sr, μ1, R, e1, fun φ1 J H1 x1 hJ D hD => ?_⟩
  have free : H D = none := by
    cases ed : H D with
    | none => rfl
    | some o => exact absurd hD (x1.ext.there D (by rw [ed]; simp))
  have out1 : D ∉ φ1 := fun z => by
    obtain ⟨o, eo⟩ := x1.sto.there z
    rw [hD] at eo; cases eo
  have g0 : Ex H1 (upd H1 D (.lst [])) := Ex.new hD
  cases sr with
  | items its =>
    simp only at e2
    split at e2
    · rename_i hz
      have e2 : loopC (turnC Γ g (wipeS ρ (own.map (·.2))) c e) its μ1 = some (ds, μ') := e2
      refine ⟨fun i m Hi => m = its.length - i ∧ i ≤ its.length ∧ ∃ φi μi accV accD restD, loopC (turnC Γ g (wipeS ρ (own.map (·.2))) c e) (its.drop i) μi = some (restD, μ') ∧ accD ++ restD = ds ∧ accD.length ≤ i ∧
        Res ε φ H φi μi Hi ∧ Grow H1 Hi ∧ Hi D = some (.lst accV) ∧ D ∉ φi ∧ EncL ε φi Hi accV accD ∧ ∃ p2, φi = φ1 ++ p2,
        ⟨its.length, by simp, Nat.zero_le _, φ1, μ1, [], [], ds, by simpa using e2, rfl, Nat.le_refl _, x1.trans (.ex x1.sto g0), g0.grow, upd_same, out1, .nil, [], by simp⟩, ?_⟩
      rintro i m Hi ⟨rfl, hi, φi, μi, accV, accD, restD, el, ea, hl, xi, gi, hDi, oi, hacc, p2, hp⟩
      by_cases hlt : i < its.length
      · obtain ⟨d, ed⟩ : ∃ d, its[i]? = some d := ⟨its[i], by simp [hlt]⟩
        obtain ⟨hgo, hy⟩ := hJ.go Hi gi i d ed
        have edrop : its.drop i = d :: its.drop (i + 1) := by
          rw [List.drop_eq_getElem_cons hlt]
          have : its[i] = d := by simpa [hlt] using ed
          rw [this]
        rw [edrop] at el
        obtain ⟨o, μ2, zs, f1, f2, f3⟩ := loopC_cons el
        refine .inr ⟨hgo, fun H' => its.length - (i + 1) = its.length - (i + 1) ∧ i + 1 ≤ its.length ∧ ∃ φi μi accV accD restD, loopC (turnC Γ g (wipeS ρ (own.map (·.2))) c e) (its.drop (i + 1)) μi = some (restD, μ') ∧ accD ++ restD = ds ∧ accD.length ≤ i + 1 ∧
          Res ε φ H φi μi H' ∧ Grow H1 H' ∧ H' D = some (.lst accV) ∧ D ∉ φi ∧ EncL ε φi H' accV accD ∧ ∃ p2, φi = φ1 ++ p2, fun H' w => ⟨_, by omega, w⟩, fun x H' yl => ?_⟩
        obtain ⟨hx, hv⟩ := hy x H' yl
        refine turn_read sub R xi free hDi oi hacc (by omega) hx (by rw [hp]; exact hv.mono p2 .refl) f1 fun φ4 H4 accV4 x4 g4 hD4 o4 hp4 ha4 => ?_
        obtain ⟨p4, hp4⟩ := hp4
        exact ⟨rfl, hlt, φ4, μ2, accV4, _, zs, f2, acc_next ea f3, acc_len hl, x4, gi.trans g4, hD4, o4, ha4, p2 ++ p4, by rw [hp4, hp, List.append_assoc]⟩
      · have hi' : i = its.length := by omega
        subst hi'
        rw [List.drop_length] at el
        cases el
        rw [List.append_nil] at ea
        subst ea
        exact .inl ⟨hJ.stop Hi gi, q φi Hi D ⟨xi, free, oi, accV, hDi, hacc⟩⟩
    · cases e2
  | cel n =>
    have e2 : loopCC (turnC Γ g (wipeS ρ (own.map (·.2))) c e) n sizeLine 0 μ1 = some (ds, μ') := e2
    obtain ⟨a, hn, rfl⟩ := hJ
    refine ⟨fun i m Hi => m = sizeLine - i ∧ ∃ φi μi accV accD restD, loopCC (turnC Γ g (wipeS ρ (own.map (·.2))) c e) n (sizeLine - i) i μi = some (restD, μ') ∧ accD ++ restD = ds ∧ accD.length ≤ i ∧
      Res ε φ H φi μi Hi ∧ Hi D = some (.lst accV) ∧ D ∉ φi ∧ EncL ε φi Hi accV accD ∧ ∃ p2, φi = φ1 ++ p2,
      ⟨sizeLine, by simp, φ1, μ1, [], [], ds, by simpa using e2, rfl, Nat.le_refl _, x1.trans (.ex x1.sto g0), upd_same, out1, .nil, [], by simp⟩, ?_⟩
    rintro i m Hi ⟨rfl, φi, μi, accV, accD, restD, el, ea, hl, xi, hDi, oi, hacc, p2, hp⟩
    have hni : φi[n]? = some a := by rw [hp]; exact get_app hn
    cases hk : sizeLine - i with
    | zero => rw [hk] at el; cases el
    | succ k =>
      rw [hk] at el
      simp only [loopCC] at el
      split at el
      · rename_i es en
        have cel := xi.sto.at_ n a _ hni en
        cases cel with
        | lst c1 c2 =>
          rename_i vs
          split at el
          · rename_i ed
            cases el
            rw [List.append_nil] at ea
            subst ea
            have hv : vs[i]? = none := by
              have l := c2.length
              rw [List.getElem?_eq_none_iff] at ed ⊢
              omega
            exact .inl ⟨⟨vs, SqL.of c1, by rw [List.getElem?_eq_none_iff] at hv; exact hv⟩, q φi Hi D ⟨xi, free, oi, accV, hDi, hacc⟩⟩
          · rename_i d ed
            simp only [Option.bind_eq_some_iff] at el
            obtain ⟨⟨o, μ2⟩, f1, ⟨zs, μ3⟩, f2, f3⟩ := el
            obtain ⟨f5, f6⟩ := Prod.mk.inj (Option.some.inj f3)
            have f6 : μ3 = μ' := f6
            subst f6
            have f7 : restD = consO o zs := by rw [← f5]; cases o <;> rfl
            obtain ⟨v, hv, hvd⟩ := c2.get ed
            have hsk : sizeLine - (i + 1) = k := by omega
            refine .inr ⟨⟨vs, v, SqL.of c1, hv⟩, fun H' => k = sizeLine - (i + 1) ∧ ∃ φi μi accV accD restD, loopCC (turnC Γ g (wipeS ρ (own.map (·.2))) c e) n (sizeLine - (i + 1)) (i + 1) μi = some (restD, μ3) ∧ accD ++ restD = ds ∧ accD.length ≤ i + 1 ∧
              Res ε φ H φi μi H' ∧ H' D = some (.lst accV) ∧ D ∉ φi ∧ EncL ε φi H' accV accD ∧ ∃ p2, φi = φ1 ++ p2, fun H' w => ⟨_, by omega, w⟩, fun x H' yl => ?_⟩
            obtain ⟨rfl, yl⟩ := yl
            have hx := yl vs (SqL.of c1)
            rw [hv] at hx; cases hx
            refine turn_read sub R xi free hDi oi hacc (by omega) Ex.refl hvd f1 fun φ4 H4 accV4 x4 g4 hD4 o4 hp4 ha4 => ?_
            obtain ⟨p4, hp4⟩ := hp4
            exact ⟨hsk.symm, φ4, _, accV4, _, zs, by rw [hsk]; exact f2, acc_next ea f7, acc_len hl, x4, hD4, o4, ha4, p2 ++ p4, by rw [hp4, hp, List.append_assoc]⟩
      · cases el
def setB : Expr → Bool
  | .Set .. => false | _ => true
theorem folded_ok {e : Expr} {env : Env} (h : setB e = true) : ∀ x, foldedSetIterable e env x = pure x := fun x => by
  cases e <;> first | rfl | (simp [setB] at h)
/-- a block's names -/
def SC.inner (S : SC) (scope : Scope) : SC := ⟨S.N, relS scope S.sc, some scope⟩
theorem CxOk.inner (C : CxOk ε T Γ S X) (scope : Scope) (s : Shared) (H : Hp) (CC : Addr) (cl : List (Str × Addr)) (fp : List Addr) : CxOk ε T Γ (S.inner scope) (X.blk s H scope (compEnvC scope cl CC X.env) fp) where
  K := C.K
  N := C.N
  nd := C.nd
  sc := by
    show relS scope X.env.scope = relS scope S.sc
    rw [C.sc]
  calm := C.calm
  xe := rfl
  gd := C.gd
  hu := C.hu
  fn := fun x => rfl
  gl := C.gl
  fns := C.fns
  inits := C.inits
  cls := fun c I h => ⟨(C.cls c I h).cl, (C.cls c I h).meth, (C.cls c I h).fld, (C.cls c I h).made⟩
theorem sf_comp (C : CxOk ε T Γ S X) {elt tg iter : Expr} {ifs : List Expr} {scope : Scope} {own : List (Str × Nat)} {pos : Pos} {g : Tg} {s : Src} {c : IO} {e : IE} (hi : PI X tg iter (rdS ε Γ s)) (ok : blkC S.N S.sc scope own = true)
    (hg : ∀ Y, CxOk ε T Γ (S.inner scope) Y → PG Y tg (rdG ε g)) (ht : ∀ Y, CxOk ε T Γ (S.inner scope) Y → PTs Y ifs (rdC ε Γ c)) (he : ∀ Y, CxOk ε T Γ (S.inner scope) Y → PE Y elt (rdE ε Γ e))
    (sub : ∀ i ∈ tgI g, i ∈ own.map (·.2)) (hs : setB iter = true) : PE X (.ListComp elt [⟨tg, iter, ifs, 0⟩] scope pos) (rdF ε Γ (.comp g own s c e)) :=
  PE.imp (pe_lc C.calm (by rw [C.N]; exact C.nd) hi (by rw [C.N, C.sc]; exact blkOk_by ok) (fun s H CC cl fp => hg _ (C.inner scope s H CC cl fp)) (fun s H CC cl fp => ht _ (C.inner scope s H CC cl fp)) (fun s H CC cl fp => he _ (C.inner scope s H CC cl fp)) (folded_ok hs)) fun σ H Q h => comp_read sub h
end
end FH
end
section
/-! FH9: statements. -/
namespace FH
open PySem PySem.Spec PyProof.Rows L2
section
variable {ε : Ev} {T : Tab} {Γ : Env2} {S : SC} {X : Cx} {φ φ' φ'' : List Addr} {H H' H'' : Hp} {μ μ' μ'' : Store} {ρ ρ' ρ'' : Slots} {σ σ' σ'' : L2.St}
/-- how a statement leaves things -/
structure StP (ε : Ev) (φ : List Addr) (ρ : Slots) (σ : L2.St) (H : Hp) (φ' : List Addr) (ρ' : Slots) (μ' : Store) (σ' : L2.St) (H' : Hp) : Prop where
  rel : Rel ε φ' ρ' μ' σ' H'
  more : ∃ φ2, φ' = φ ++ φ2 ∧ ∀ b ∈ φ2, H b = none
  grow : Grow H H'
  there : ∀ b, H b ≠ none → H' b ≠ none
  keep : ∀ b o, H b = some o → b ∉ φ → b ∉ ownA ρ σ → H' b = some o
  own : ∀ a ∈ ownA ρ' σ', a ∈ ownA ρ σ ∨ H a = none
theorem StP.of (R : Rel ε φ ρ μ σ H) (x : Res ε φ H φ' μ' H') : StP ε φ ρ σ H φ' ρ μ' σ H' :=
  ⟨R.step x, x.ext.more, x.ext.grow, x.ext.there, fun b o e n _ => x.ext.keep b o e n, fun _ h => .inl h⟩
theorem StP.refl (R : Rel ε φ ρ μ σ H) : StP ε φ ρ σ H φ ρ μ σ H := .of R (.refl R.sto)
theorem StP.trans {ρ1 : Slots} {σ1 : L2.St} (a : StP ε φ ρ σ H φ' ρ1 μ' σ1 H') (b : StP ε φ' ρ1 σ1 H' φ'' ρ'' μ'' σ'' H'') : StP ε φ ρ σ H φ'' ρ'' μ'' σ'' H'' := by
  obtain ⟨p2, rfl, f2⟩ := a.more
  obtain ⟨p3, rfl, f3⟩ := b.more
  have fr : ∀ c, H' c = none → H c = none := fun c hc => by
    cases e : H c with
    | none => rfl
    | some o => exact absurd hc (a.there c (by rw [e]; simp))
  refine ⟨b.rel, ⟨p2 ++ p3, by simp, fun c hc => ?_⟩, a.grow.trans b.grow, fun c e => b.there c (a.there c e), fun c o e n m => ?_, fun c hc => ?_⟩
  · rcases List.mem_append.mp hc with h | h
    · exact f2 c h
    · exact fr c (f3 c h)
  · refine b.keep c o (a.keep c o e n m) (fun z => ?_) fun z => ?_
    · rcases List.mem_append.mp z with z | z
      · exact n z
      · rw [f2 c z] at e; cases e
    · rcases a.own c z with z | z
      · exact m z
      · rw [z] at e; cases e
  · rcases b.own c hc with h | h
    · exact a.own c h
    · exact .inr (fr c h)
theorem StP.slots {ρ1 : Slots} {σ1 : L2.St} (a : StP ε φ ρ σ H φ' ρ1 μ' σ1 H') (R : Rel ε φ' ρ' μ' σ' H') (w : OwnLe ρ1 σ1 ρ' σ') : StP ε φ ρ σ H φ' ρ' μ' σ' H' :=
  ⟨R, a.more, a.grow, a.there, a.keep, fun c hc => a.own c (w c hc)⟩
theorem StP.enc (x : StP ε φ ρ σ H φ' ρ' μ' σ' H') {v : V} {d : D} (h : Enc ε φ H v d) : Enc ε φ' H' v d := by
  obtain ⟨p2, rfl, _⟩ := x.more
  exact h.mono p2 x.grow
theorem StP.pre {φ' φ'' : List Addr} {μ' μ'' : Store} (R : Rel ε φ ρ μ σ H) (x : Res ε φ H φ' μ' H') (b : StP ε φ' ρ σ H' φ'' ρ'' μ'' σ'' H'') : StP ε φ ρ σ H φ'' ρ'' μ'' σ'' H'' := (StP.of R x).trans b

/-- what is wanted behind it -/
def EndP (ε : Ev) (φ : List Addr) (ρ : Slots) (σ : L2.St) (H : Hp) (D : Ends) (fl : Fl) (ρ' : Slots) (μ' : Store) : Prop :=
  ∀ φ' σ' H', StP ε φ ρ σ H φ' ρ' μ' σ' H' → match fl with
    | .nx => D.nx σ' H'
    | .brk => D.bk σ' H'
    | .ct => D.ct σ' H'
    | .ret d => ∀ v, Enc ε φ' H' v d → D.rt v H'
def rdSt (ε : Ev) (Γ : Env2) (i : IS) : TS := fun D σ H => ∃ φ ρ μ fl ρ' μ', Rel ε φ ρ μ σ H ∧ evS Γ i ρ μ = some (fl, ρ', μ') ∧ EndP ε φ ρ σ H D fl ρ' μ'
def rdSs (ε : Ev) (Γ : Env2) (i : ISs) : TS := fun D σ H => ∃ φ ρ μ fl ρ' μ', Rel ε φ ρ μ σ H ∧ evSs Γ i ρ μ = some (fl, ρ', μ') ∧ EndP ε φ ρ σ H D fl ρ' μ'
theorem EndP.pre {ρ1 : Slots} {μ1 : Store} {σ1 : L2.St} {D : Ends} {fl : Fl} (q : EndP ε φ ρ σ H D fl ρ' μ') (x : StP ε φ ρ σ H φ' ρ1 μ1 σ1 H') : EndP ε φ' ρ1 σ1 H' D fl ρ' μ' := by
  intro φ2 σ2 H2 y
  exact q φ2 σ2 H2 (x.trans y)
theorem PS.imp {e : Stmt} {t t' : TS} (h : PS X e t) (k : ∀ D σ H, t' D σ H → t D σ H) : PS X e t' := ⟨fun pins s σ H D I q => h.run pins s σ H D I (k D σ H q)⟩
theorem PSs.imp {e : List Stmt} {t t' : TS} (h : PSs X e t) (k : ∀ D σ H, t' D σ H → t D σ H) : PSs X e t' := ⟨fun pins s σ H D I q => h.run pins s σ H D I (k D σ H q)⟩
theorem ss_nil : PSs X [] (rdSs ε Γ .nil) := PSs.imp pss_nil fun D σ H ⟨φ, ρ, μ, fl, ρ', μ', R, e, q⟩ => by
  cases e; exact q φ σ H (.refl R)
theorem ss_cons {st : Stmt} {sts : List Stmt} {i : IS} {is : ISs} (h1 : PS X st (rdSt ε Γ i)) (h2 : PSs X sts (rdSs ε Γ is)) : PSs X (st :: sts) (rdSs ε Γ (.cons i is)) := by
  refine PSs.imp (pss_cons h1 h2) fun D σ H ⟨φ, ρ, μ, fl, ρ', μ', R, e, q⟩ => ?_
  simp only [evSs, Option.bind_eq_some_iff] at e
  obtain ⟨⟨fl1, ρ1, μ1⟩, e1, e2⟩ := e
  refine ⟨φ, ρ, μ, fl1, ρ1, μ1, R, e1, fun φ1 σ1 H1 x1 => ?_⟩
  cases fl1 with
  | nx => exact ⟨φ1, ρ1, μ1, fl, ρ', μ', x1.rel, e2, q.pre x1⟩
  | brk => cases e2; exact q φ1 σ1 H1 x1
  | ct => cases e2; exact q φ1 σ1 H1 x1
  | ret d => cases e2; exact q φ1 σ1 H1 x1
theorem st_pass {pos : Pos} : PS X (.Pass pos) (rdSt ε Γ .pass) := PS.imp ps_pass fun D σ H ⟨φ, ρ, μ, fl, ρ', μ', R, e, q⟩ => by cases e; exact q φ σ H (.refl R)
theorem st_brk {pos : Pos} : PS X (.Break pos) (rdSt ε Γ .brk) := PS.imp ps_break fun D σ H ⟨φ, ρ, μ, fl, ρ', μ', R, e, q⟩ => by cases e; exact q φ σ H (.refl R)
theorem st_cnt {pos : Pos} : PS X (.Continue pos) (rdSt ε Γ .cnt) := PS.imp ps_continue fun D σ H ⟨φ, ρ, μ, fl, ρ', μ', R, e, q⟩ => by cases e; exact q φ σ H (.refl R)
theorem st_retN {pos : Pos} : PS X (.Return none pos) (rdSt ε Γ .retN) := PS.imp ps_retN fun D σ H ⟨φ, ρ, μ, fl, ρ', μ', R, e, q⟩ => by cases e; exact q φ σ H (.refl R) _ .non
def notComp : Expr → Bool
  | .ListComp .. => false | .SetComp .. => false | .DictComp .. => false | _ => true
theorem swap_no {e : Expr} {t : Option Expr} {l : Nat} {env : Env} (h : notComp e = true) : swapsWith e t l env = pure false := by
  cases e <;> first | rfl | (simp [notComp] at h)
theorem st_expr {e : Expr} {ie : IE} {pos : Pos} (nc : notComp e = true) (h : PE X e (rdE ε Γ ie)) : PS X (.Expr e pos) (rdSt ε Γ (.expr ie)) := by
  refine PS.imp (ps_expr h (swap_no nc)) fun D σ H ⟨φ, ρ, μ, fl, ρ', μ', R, e, q⟩ => ?_
  simp only [evS, Option.map_eq_some_iff] at e
  obtain ⟨⟨d, μ1⟩, e1, e2⟩ := e
  cases e2
  exact ⟨φ, ρ, μ, d, _, R, e1, fun φ1 v H1 x1 y1 => q φ1 σ H1 (.of R x1)⟩
theorem st_ret {e : Expr} {ie : IE} {pos : Pos} (h : PE X e (rdE ε Γ ie)) : PS X (.Return (some e) pos) (rdSt ε Γ (.ret ie)) := by
  refine PS.imp (ps_ret h) fun D σ H ⟨φ, ρ, μ, fl, ρ', μ', R, e, q⟩ => ?_
  simp only [evS, Option.map_eq_some_iff] at e
  obtain ⟨⟨d, μ1⟩, e1, e2⟩ := e
  cases e2
  exact ⟨φ, ρ, μ, d, _, R, e1, fun φ1 v H1 x1 y1 => q φ1 σ H1 (.of R x1) v y1⟩
theorem setS_ok {i : Nat} {s : Slot} (h : setS ρ i s = some ρ') : ρ' = ρ.set i s ∧ i < ρ.length := by
  unfold setS at h
  split at h
  · rename_i hi; cases h; exact ⟨rfl, hi⟩
  · cases h
theorem StP.val {v : V} {d : D} {i : Nat} (x : StP ε φ ρ σ H φ' ρ' μ' σ' H') (y : Enc ε φ' H' v d) : StP ε φ ρ σ H φ' (ρ'.set i (.val d)) μ' (σ'.set i (some v)) H' :=
  x.slots (x.rel.val y) (own_set fun _ z => nomatch z)
theorem st_set (C : CxOk ε T Γ S X) {i : Nat} {x : Str} {e : Expr} {ie : IE} {pos pos' : Pos} (nc : notComp e = true) (h : S.N[i]? = some x) (hl : locB S x = true) (he : PE X e (rdE ε Γ ie)) : PS X (.Assign [.Name x pos'] e pos) (rdSt ε Γ (.set i ie)) := by
  obtain ⟨h1, h2⟩ := locB_ok C hl
  refine PS.imp (ps_set (i := i) (by rw [C.N]; exact C.nd) (by rw [C.N]; exact h) h1 he (swap_no nc) h2) fun D σ H ⟨φ, ρ, μ, fl, ρ', μ', R, e, q⟩ => ?_
  simp only [evS, Option.bind_eq_some_iff, Option.map_eq_some_iff] at e
  obtain ⟨⟨d, μ1⟩, e1, ρ1, e2, e3⟩ := e
  cases e3
  obtain ⟨rfl, _⟩ := setS_ok e2
  exact ⟨φ, ρ, μ, d, _, R, e1, fun φ1 v H1 x1 y1 => q φ1 _ H1 ((StP.of R x1).val y1)⟩
/-- a name is given a new list -/
def PSF (ε : Ev) (Γ : Env2) (X : Cx) (st : Stmt) (i : Nat) (f : FE) : Prop := PS X st (tAsg (rdF ε Γ f) (gName i))
theorem psf_set (C : CxOk ε T Γ S X) {i : Nat} {x : Str} {e : Expr} {f : FE} {pos pos' : Pos} (nc : notComp e = true) (h : S.N[i]? = some x) (hl : locB S x = true) (he : PE X e (rdF ε Γ f)) : PSF ε Γ X (.Assign [.Name x pos'] e pos) i f := by
  obtain ⟨h1, h2⟩ := locB_ok C hl
  exact ps_set (i := i) (by rw [C.N]; exact C.nd) (by rw [C.N]; exact h) h1 he (swap_no nc) h2
def lineB (p q : Pos) : Bool := p.line == q.line
theorem psf_comp (C : CxOk ε T Γ S X) {i : Nat} {y : Str} {elt tg iter : Expr} {ifs : List Expr} {scope : Scope} {own : List (Str × Nat)} {pos py spos : Pos} {g : Tg} {s : Src} {c : IO} {e : IE} (hk : S.sc.kind = .function) (h : S.N[i]? = some y) (hy : S.sc.names.lookup y = some .local)
    (hl : lineB py pos = true) (ha : (scope.names.any fun p => p.1 == y && (p.2 == .local || p.2 == .cell)) = false)
    (hi : PI X tg iter (rdS ε Γ s)) (ok : blkC S.N S.sc scope own = true)
    (hg : ∀ Y, CxOk ε T Γ (S.inner scope) Y → PG Y tg (rdG ε g)) (ht : ∀ Y, CxOk ε T Γ (S.inner scope) Y → PTs Y ifs (rdC ε Γ c)) (he : ∀ Y, CxOk ε T Γ (S.inner scope) Y → PE Y elt (rdE ε Γ e))
    (sub : ∀ i ∈ tgI g, i ∈ own.map (·.2)) (hs : setB iter = true) : PSF ε Γ X (.Assign [.Name y py] (.ListComp elt [⟨tg, iter, ifs, 0⟩] scope pos) spos) i (.comp g own s c e) :=
  PS.imp (ps_setLc C.calm (by rw [C.N]; exact C.nd) (by rw [C.N]; exact h) (by rw [C.sc]; exact hy) (sw_true (by rw [C.sc]; exact hk) (by rw [C.sc]; exact hy) hl ha) hi (by rw [C.N, C.sc]; exact blkOk_by ok)
    (fun s H CC cl fp => hg _ (C.inner scope s H CC cl fp)) (fun s H CC cl fp => ht _ (C.inner scope s H CC cl fp)) (fun s H CC cl fp => he _ (C.inner scope s H CC cl fp)) (folded_ok hs)) fun D σ H q => comp_read sub q
theorem StP.ownl {p : Addr} {ds : List D} {i : Nat} (R : Rel ε φ ρ μ σ H) (n : NewL ε φ H φ' μ' H' p ds) : StP ε φ ρ σ H φ' (ρ.set i (.own (.lst ds))) μ' (σ.set i (some (.ref p))) H' := by
  have x := StP.of R n.res
  obtain ⟨vs, h1, h2⟩ := n.it
  have np : p ∉ ownA ρ σ := fun z => by
    obtain ⟨o, e⟩ := ownA_there R.slots p z
    rw [n.free] at e; cases e
  refine ⟨x.rel.put ⟨p, rfl, .lst h1 h2⟩ fun c a e1 e2 => ?_, x.more, x.grow, x.there, x.keep, fun a ha => ?_⟩
  · cases e2; exact ⟨np, n.out⟩
  · rcases mem_ownA_set ha with ha | ⟨c, e1, e2⟩
    · exact .inl ha
    · cases e2; exact .inr n.free
theorem st_setOwn {st : Stmt} {i : Nat} {f : FE} (h : PSF ε Γ X st i f) : PS X st (rdSt ε Γ (.setOwn i f)) := by
  refine PS.imp h fun D σ H ⟨φ, ρ, μ, fl, ρ', μ', R, e, q⟩ => ?_
  simp only [evS, Option.bind_eq_some_iff, Option.map_eq_some_iff] at e
  obtain ⟨⟨ds, μ1⟩, e1, ρ1, e2, e3⟩ := e
  cases e3
  obtain ⟨rfl, _⟩ := setS_ok e2
  exact ⟨φ, ρ, μ, ds, _, R, e1, fun φ1 H1 p n => q φ1 _ H1 (.ownl R n)⟩
theorem st_setCell {st : Stmt} {i : Nat} {f : FE} (h : PSF ε Γ X st i f) : PS X st (rdSt ε Γ (.set i (.cell f))) := by
  refine PS.imp h fun D σ H ⟨φ, ρ, μ, fl, ρ', μ', R, e, q⟩ => ?_
  simp only [evS, evE, Option.bind_eq_some_iff, Option.map_eq_some_iff] at e
  obtain ⟨⟨d, μ1⟩, ⟨⟨ds, μ2⟩, e1, e0⟩, ρ1, e2, e3⟩ := e
  cases e0
  cases e3
  obtain ⟨rfl, _⟩ := setS_ok e2
  exact ⟨φ, ρ, μ, ds, _, R, e1, fun φ1 H1 p n => q _ _ H1 ((StP.of R n.cell.1).val n.cell.2)⟩
theorem st_setFrz {st : Stmt} {i : Nat} {f : FE} (h : PSF ε Γ X st i f) : PS X st (rdSt ε Γ (.set i (.frz f))) := by
  refine ⟨fun pins s σ H D I ⟨φ, ρ, μ, fl, ρ', μ', R, e, q⟩ => ?_⟩
  simp only [evS, evE, Option.bind_eq_some_iff, Option.map_eq_some_iff] at e
  obtain ⟨⟨d, μ1⟩, ⟨⟨ds, μ2⟩, e1, e0⟩, ρ1, e2, e3⟩ := e
  cases e0
  cases e3
  obtain ⟨rfl, _⟩ := setS_ok e2
  refine thn (h.run pins s σ H ⟨fun σ' H' => ∃ φ' p, NewL ε φ H φ' μ2 H' p ds ∧ σ' = σ.set i (some (.ref p)), D.rt, D.bk, D.ct⟩ I ⟨φ, ρ, μ, ds, _, R, e1, fun φ1 H1 p n => ⟨φ1, p, n, rfl⟩⟩) fun f s1 z => ?_
  cases f with
  | next =>
    obtain ⟨σ1, H1, I1, φ1, p, n, rfl⟩ := z
    obtain ⟨ys, hp, k⟩ := n.frz
    obtain ⟨od, I2⟩ := I1.lock hp trivial
    obtain ⟨x, y⟩ := k od
    exact ⟨_, _, I2, q φ1 _ _ ((StP.of R x).val y)⟩
  | ret v => exact z
  | brk => exact z
  | cont => exact z
theorem st_unp {tg e : Expr} {g : Tg} {ie : IE} {pos : Pos} (hw : swappedStores [tg] e X.env = pure none) (nc : notComp e = true) (ht : tgE tg = true) (hg : PG X tg (rdG ε g)) (he : PE X e (rdE ε Γ ie)) : PS X (.Assign [tg] e pos) (rdSt ε Γ (.unp g ie)) := by
  refine PS.imp (ps_asg he hg (swap_no nc) hw (each_cons ht)) fun D σ H ⟨φ, ρ, μ, fl, ρ', μ', R, e, q⟩ => ?_
  simp only [evS, Option.bind_eq_some_iff, Option.map_eq_some_iff] at e
  obtain ⟨⟨d, μ1⟩, e1, ρ1, e2, e3⟩ := e
  cases e3
  exact ⟨φ, ρ, μ, d, _, R, e1, fun φ1 v H1 x1 y1 => ⟨φ1, ρ, _, d, _, R.step x1, y1, e2, fun σ2 R2 o2 w2 => q φ1 σ2 H1 ((StP.of R x1).slots R2 w2)⟩⟩
theorem st_ifs {c : Expr} {a b : List Stmt} {ic : IE} {ia ib : ISs} {pos : Pos} (hc : PT X c (rdT ε Γ ic)) (ha : PSs X a (rdSs ε Γ ia)) (hb : PSs X b (rdSs ε Γ ib)) : PS X (.If c a b pos) (rdSt ε Γ (.ifs ic ia ib)) := by
  refine PS.imp (ps_if hc ha hb) fun D σ H ⟨φ, ρ, μ, fl, ρ', μ', R, e, q⟩ => ?_
  simp only [evS, Option.bind_eq_some_iff] at e
  obtain ⟨⟨d, μ1⟩, e1, k, e2, e3⟩ := e
  refine ⟨φ, ρ, μ, d, μ1, k, R, e1, e2, fun φ1 H1 x1 => ?_⟩
  cases k with
  | true => exact ⟨φ1, ρ, μ1, fl, ρ', μ', R.step x1, by simpa using e3, q.pre (.of R x1)⟩
  | false => exact ⟨φ1, ρ, μ1, fl, ρ', μ', R.step x1, by simpa using e3, q.pre (.of R x1)⟩
end
end FH
end
section
/-! FH10: statements: loops. -/
namespace FH
open PySem PySem.Spec PyProof.Rows L2
section
variable {ε : Ev} {T : Tab} {Γ : Env2} {S : SC} {X : Cx}
theorem own_passes (C : CxOk ε T Γ S X) : PassesOwn (model X.prog X.w) X.A X.env X.xe := by
  rw [C.xe]; exact PassesOwn.never
theorem st_fors (C : CxOk ε T Γ S X) {tg iter : Expr} {body : List Stmt} {g : Tg} {s : Src} {b : ISs} {pos : Pos} (hi : PI X tg iter (rdS ε Γ s)) (hg : PG X tg (rdG ε g)) (hb : PSs X body (rdSs ε Γ b)) (hs : setB iter = true) :
    PS X (.For tg iter body [] pos) (rdSt ε Γ (.fors g s b)) := by
  refine PS.imp (ps_for (own_passes C) C.calm hi hg hb (folded_ok hs)) fun D σ H ⟨φ, ρ, μ, fl, ρ', μ', R, e, q⟩ => ?_
  simp only [evS, Option.bind_eq_some_iff] at e
  obtain ⟨⟨sr, μ1⟩, e1, e2⟩ := e
  refine ⟨φ, ρ, μ, sr, μ1, R, e1, fun φ1 J H1 x1 hJ => ?_⟩
  cases sr with
  | cel n => cases e2
  | items ds =>
    have e2 : loopF (fun x ρ μ => (asgT g x ρ).bind fun ρ' => evSs Γ b ρ' μ) ds ρ μ1 = some (fl, ρ', μ') := e2
    have hJ : ItOk ε φ1 H1 ds J := hJ
    refine ⟨fun i m σi Hi => m = ds.length - i ∧ i ≤ ds.length ∧ ∃ φi ρi μi, StP ε φ ρ σ H φi ρi μi σi Hi ∧ Grow H1 Hi ∧ (∃ p2, φi = φ1 ++ p2) ∧
      loopF (fun x ρ μ => (asgT g x ρ).bind fun ρ' => evSs Γ b ρ' μ) (ds.drop i) ρi μi = some (fl, ρ', μ'), ⟨ds.length, by simp, Nat.zero_le _, φ1, ρ, μ1, .of R x1, .refl, ⟨[], by simp⟩, by simpa using e2⟩, ?_⟩
    rintro i m σi Hi ⟨rfl, hi, φi, ρi, μi, xi, gi, ⟨p2, hp⟩, el⟩
    by_cases hlt : i < ds.length
    · obtain ⟨d, ed⟩ : ∃ d, ds[i]? = some d := ⟨ds[i], by simp [hlt]⟩
      obtain ⟨hgo, hy⟩ := hJ.go Hi gi i d ed
      have edrop : ds.drop i = d :: ds.drop (i + 1) := by
        rw [List.drop_eq_getElem_cons hlt]
        have : ds[i] = d := by simpa [hlt] using ed
        rw [this]
      rw [edrop] at el
      simp only [loopF, Option.bind_eq_some_iff] at el
      obtain ⟨⟨f2, ρ2, μ2⟩, ⟨ρ1, f0, f1⟩, f3⟩ := el
      refine .inr ⟨hgo, fun σn Hn => ∃ φi ρi μi, StP ε φ ρ σ H φi ρi μi σn Hn ∧ Grow H1 Hn ∧ (∃ p2, φi = φ1 ++ p2) ∧
        loopF (fun x ρ μ => (asgT g x ρ).bind fun ρ' => evSs Γ b ρ' μ) (ds.drop (i + 1)) ρi μi = some (fl, ρ', μ'), fun σn Hn w => ⟨ds.length - (i + 1), by omega, rfl, hlt, w⟩, fun x H' yl => ?_⟩
      obtain ⟨hx, hv⟩ := hy x H' yl
      have hv' : Enc ε φi H' x d := by rw [hp]; exact hv.mono p2 .refl
      have x0 : Res ε φi Hi φi μi H' := .ex xi.rel.sto hx
      have Ri := xi.rel.step x0
      have xi' := xi.trans (.of xi.rel x0)
      refine ⟨φi, ρi, μi, d, ρ1, Ri, hv', f0, fun σ2 R2 o2 w2 => ?_⟩
      have x2 := xi'.slots R2 w2
      refine ⟨φi, ρ1, μi, f2, ρ2, μ2, R2, f1, fun φ3 σ3 H3 x3 => ?_⟩
      have x4 := x2.trans x3
      have again : ∀ f', (f' = loopF (fun x ρ μ => (asgT g x ρ).bind fun ρ' => evSs Γ b ρ' μ) (ds.drop (i + 1)) ρ2 μ2) → f' = some (fl, ρ', μ') → ∃ φi ρi μi, StP ε φ ρ σ H φi ρi μi σ3 H3 ∧ Grow H1 H3 ∧ (∃ p2, φi = φ1 ++ p2) ∧
        loopF (fun x ρ μ => (asgT g x ρ).bind fun ρ' => evSs Γ b ρ' μ) (ds.drop (i + 1)) ρi μi = some (fl, ρ', μ') := fun f' e5 e6 => by
        obtain ⟨p3, hp3, _⟩ := x3.more
        exact ⟨φ3, ρ2, μ2, x4, (gi.trans hx.grow).trans x3.grow, ⟨p2 ++ p3, by rw [hp3, hp, List.append_assoc]⟩, by rw [← e5]; exact e6⟩
      cases f2 with
      | nx => exact again _ rfl f3
      | ct => exact again _ rfl f3
      | brk => cases f3; exact q φ3 σ3 H3 x4
      | ret d => cases f3; exact q φ3 σ3 H3 x4
    · have hi' : i = ds.length := by omega
      subst hi'
      rw [List.drop_length] at el
      cases el
      exact .inl ⟨hJ.stop Hi gi, q φi σi Hi xi⟩
theorem st_whil (C : CxOk ε T Γ S X) {c : Expr} {body : List Stmt} {ic : IE} {b : ISs} {pos : Pos} (hc : PT X c (rdT ε Γ ic)) (hb : PSs X body (rdSs ε Γ b)) : PS X (.While c body [] pos) (rdSt ε Γ (.whil ic b)) := by
  refine PS.imp (ps_while (own_passes C) hc hb) fun D σ H ⟨φ, ρ, μ, fl, ρ', μ', R, e, q⟩ => ?_
  simp only [evS] at e
  refine ⟨fun m σi Hi => ∃ φi ρi μi, StP ε φ ρ σ H φi ρi μi σi Hi ∧ loopW (fun ρ μ => (evE Γ ic ρ μ).bind fun r => (truD (viewD r.2 r.1)).map fun k => (k, r.2)) (fun ρ μ => evSs Γ b ρ μ) m ρi μi = some (fl, ρ', μ'), ⟨fuelW, φ, ρ, μ, .refl R, e⟩, ?_⟩
  rintro m σi Hi ⟨φi, ρi, μi, xi, el⟩
  cases m with
  | zero => cases el
  | succ m =>
    simp only [loopW, Option.bind_eq_some_iff, Option.map_eq_some_iff] at el
    obtain ⟨⟨k, μ1⟩, ⟨⟨d, μ2⟩, e1, k', e2, e3⟩, e4⟩ := el
    cases e3
    refine ⟨φi, ρi, μi, d, _, k, xi.rel, e1, e2, fun φ1 H1 x1 => ?_⟩
    have y1 := xi.trans (.of xi.rel x1)
    cases k with
    | false =>
      simp at e4
      obtain ⟨rfl, rfl, rfl⟩ := e4
      simp only [Bool.false_eq_true, if_false]
      exact q φ1 σi H1 y1
    | true =>
      simp only [if_true, Option.bind_eq_some_iff] at e4 ⊢
      obtain ⟨⟨f2, ρ2, μ3⟩, f1, f3⟩ := e4
      refine ⟨fun σn Hn => ∃ φi ρi μi, StP ε φ ρ σ H φi ρi μi σn Hn ∧ loopW (fun ρ μ => (evE Γ ic ρ μ).bind fun r => (truD (viewD r.2 r.1)).map fun k => (k, r.2)) (fun ρ μ => evSs Γ b ρ μ) m ρi μi = some (fl, ρ', μ'), fun σn Hn w => ⟨m, Nat.lt_succ_self m, w⟩, ?_⟩
      refine ⟨φ1, ρi, _, f2, ρ2, μ3, y1.rel, f1, fun φ3 σ3 H3 x3 => ?_⟩
      have x4 := y1.trans x3
      cases f2 with
      | nx => exact ⟨φ3, ρ2, μ3, x4, f3⟩
      | ct => exact ⟨φ3, ρ2, μ3, x4, f3⟩
      | brk => cases f3; exact q φ3 σ3 H3 x4
      | ret d => cases f3; exact q φ3 σ3 H3 x4
end
end FH
end
section
/-! FH11: statements: what is changed. -/
namespace FH
open PySem PySem.Spec PyProof.Rows L2
section
variable {ε : Ev} {T : Tab} {Γ : Env2} {S : SC} {X : Cx} {φ φ' : List Addr} {H H' : Hp} {μ μ' : Store} {ρ ρ' : Slots} {σ σ' : L2.St}
theorem lstAt_ok {d : D} {n : Nat} {ds : List D} (h : lstAt μ d = some (n, ds)) : d = .ref n ∧ μ[n]? = some (.lst ds) := by
  unfold lstAt at h
  split at h
  · split at h
    · rename_i e; cases h; exact ⟨rfl, e⟩
    · cases h
  · cases h
theorem insAt_ok {d : D} {n c : Nat} {fs : List (Str × D)} (h : insAt μ c d = some (n, fs)) : d = .ref n ∧ μ[n]? = some (.ins c fs) := by
  unfold insAt at h
  split at h
  · split at h
    · rename_i e
      split at h
      · rename_i hc; cases h; subst hc; exact ⟨rfl, e⟩
      · cases h
    · cases h
  · cases h
theorem lst_at {v : V} {d : D} {n : Nat} {ds : List D} (St : Sto ε φ μ H) (y : Enc ε φ H v d) (h : lstAt μ d = some (n, ds)) : ∃ a vs, v = .ref a ∧ φ[n]? = some a ∧ H a = some (.lst vs) ∧ EncL ε φ H vs ds := by
  obtain ⟨rfl, e⟩ := lstAt_ok h
  cases y with
  | ref hn =>
    rename_i a
    have c := St.at_ n _ _ hn e
    cases c with
    | lst c1 c2 => exact ⟨a, _, rfl, hn, c1, c2⟩
theorem ins_at {v : V} {d : D} {n c : Nat} {ds : List (Str × D)} (St : Sto ε φ μ H) (y : Enc ε φ H v d) (h : insAt μ c d = some (n, ds)) : ∃ a dx fs, v = .ref a ∧ φ[n]? = some a ∧ H a = some (.ins (ε.ca c) dx fs) ∧ EncK ε φ H fs ds := by
  obtain ⟨rfl, e⟩ := insAt_ok h
  cases y with
  | ref hn =>
    rename_i a
    have c := St.at_ n _ _ hn e
    cases c with
    | ins c1 c2 => exact ⟨a, _, _, rfl, hn, c1, c2⟩
theorem grow_upd {a : Addr} {o : HO} (nt : ∀ xs, H a ≠ some (.tup xs)) (nf : ∀ q u, H a ≠ some (.frz q u)) : Grow H (upd H a o) :=
  ⟨fun b xs e => by rw [upd_ne (fun z => by rw [z] at e; exact nt _ e)]; exact e, fun b q u e => by rw [upd_ne (fun z => by rw [z] at e; exact nf _ _ e)]; exact e⟩
theorem no_t {a : Addr} {vs : List V} (h : H a = some (.lst vs)) : ∀ xs, H a ≠ some (.tup xs) := fun xs e => by rw [h] at e; cases e
theorem no_f {a : Addr} {vs : List V} (h : H a = some (.lst vs)) : ∀ q u, H a ≠ some (.frz q u) := fun q u e => by rw [h] at e; cases e
/-- a list that may change is given other items -/
theorem Res.lset {n : Nat} {a : Addr} {vs ws : List V} {ds : List D} (St : Sto ε φ μ H) (hn : φ[n]? = some a) (h : H a = some (.lst vs)) (y : EncL ε φ H ws ds) : Res ε φ H φ (μ.set n (.lst ds)) (L2.upd H a (.lst ws)) :=
  Res.set St hn (no_t h) (no_f h) (.lst upd_same (y.grow (grow_upd (no_t h) (no_f h))))
theorem Sto.out {a : Addr} {o : HO} (St : Sto ε φ μ H) (na : a ∉ φ) (g : Grow H (upd H a o)) : Sto ε φ μ (upd H a o) := ⟨St.len, St.nd, fun m b c e1 e2 => by
  have q := (St.at_ m b c e1 e2).mono [] g fun u e => by rw [upd_ne (fun z => na (by rw [← z]; exact List.mem_of_getElem? e1))]; exact e
  rwa [List.append_nil] at q⟩
theorem slots_other {a : Addr} {o : HO} (g : Grow H (upd H a o)) : ∀ {ρ : Slots} {σ : L2.St}, Paired (SlotOk ε φ H) ρ σ → a ∉ ownA ρ σ → Paired (SlotOk ε φ (upd H a o)) ρ σ
  | _, _, .nil, _ => .nil
  | s :: ρ, u :: σ, .cons q r, h => by
    refine .cons ?_ (slots_other g r fun z => h (ownA_cons z))
    cases s with
    | emp => trivial
    | val d => obtain ⟨v, rfl, e⟩ := q; exact ⟨v, rfl, e.grow g⟩
    | own c =>
      obtain ⟨b, rfl, e⟩ := q
      have hb : b ≠ a := by rintro rfl; exact h (by simp [ownA])
      have e' := e.mono [] g fun u z => by rw [upd_ne hb]; exact z
      rw [List.append_nil] at e'
      exact ⟨b, rfl, e'⟩
theorem slots_at {a : Addr} {o : HO} {s : Slot} {c0 : Cell} (g : Grow H (upd H a o)) (hs : SlotOk ε φ (upd H a o) s (some (.ref a))) : ∀ {ρ : Slots} {σ : L2.St} {i : Nat}, Paired (SlotOk ε φ H) ρ σ → ρ[i]? = some (.own c0) → σ[i]? = some (some (.ref a)) → (ownA ρ σ).Nodup →
    Paired (SlotOk ε φ (upd H a o)) (ρ.set i s) σ
  | [], _, i, .nil, h, _, _ => by simp at h
  | s0 :: ρ, u :: σ, 0, .cons q r, h, k, nd => by
    simp at h k
    subst h; subst k
    refine .cons hs (slots_other g r ?_)
    simp only [ownA, List.nodup_cons] at nd
    exact nd.1
  | s0 :: ρ, u :: σ, i + 1, .cons q r, h, k, nd => by
    have h' : ρ[i]? = some (.own c0) := by simpa using h
    have k' : σ[i]? = some (some (.ref a)) := by simpa using k
    refine .cons ?_ (slots_at g hs r h' k' (nd.sublist ownA_sub))
    cases s0 with
    | emp => trivial
    | val d => obtain ⟨v, rfl, e⟩ := q; exact ⟨v, rfl, e.grow g⟩
    | own c =>
      obtain ⟨b, rfl, e⟩ := q
      have m := ownA_get h' k'
      simp only [ownA, List.nodup_cons] at nd
      have hb : b ≠ a := by rintro rfl; exact nd.1 m
      have e' := e.mono [] g fun u z => by rw [upd_ne hb]; exact z
      rw [List.append_nil] at e'
      exact ⟨b, rfl, e'⟩
theorem ownA_repl {c0 c : Cell} : ∀ {ρ : Slots} {σ : L2.St} {i : Nat}, ρ[i]? = some (.own c0) → ownA (ρ.set i (.own c)) σ = ownA ρ σ
  | [], _, _, h => by simp at h
  | s0 :: ρ, [], i, h => by cases i <;> simp [ownA]
  | s0 :: ρ, u :: σ, 0, h => by
    simp at h; subst h
    cases u with
    | none => rfl
    | some v => cases v <;> rfl
  | s0 :: ρ, u :: σ, i + 1, h => by
    have ih := @ownA_repl c0 c ρ σ i (by simpa using h)
    cases s0 with
    | emp => exact ih
    | val d => exact ih
    | own c1 =>
      cases u with
      | none => exact ih
      | some v => cases v <;> first | exact ih | (show _ :: _ = _ :: _; rw [ih])
/-- a list that a name alone holds is given other items -/
theorem StP.oset {i : Nat} {a : Addr} {vs ws : List V} {c0 : Cell} {ds : List D} (R : Rel ε φ ρ μ σ H) (hi : ρ[i]? = some (.own c0)) (hs : σ[i]? = some (some (.ref a))) (h : H a = some (.lst vs)) (y : EncL ε φ H ws ds) :
    StP ε φ ρ σ H φ (ρ.set i (.own (.lst ds))) μ σ (upd H a (.lst ws)) := by
  have g : Grow H (upd H a (.lst ws)) := grow_upd (no_t h) (no_f h)
  have m := ownA_get hi hs
  have er : ownA (ρ.set i (.own (.lst ds))) σ = ownA ρ σ := ownA_repl hi
  refine ⟨⟨R.sto.out (R.dj a m) g, slots_at (s := .own (.lst ds)) g ⟨a, rfl, .lst upd_same (y.grow g)⟩ R.slots hi hs R.nd, by rw [er]; exact R.nd, by rw [er]; exact R.dj⟩, ⟨[], by simp, fun _ h => by simp at h⟩, g, fun b e z => ?_, fun b o e n1 n2 => ?_, fun b hb => .inl (by rw [er] at hb; exact hb)⟩
  · by_cases hb : b = a
    · rw [hb, upd_same] at z; cases z
    · rw [upd_ne hb] at z; exact e z
  · rw [upd_ne (fun z => n2 (by rw [z]; exact m))]; exact e
theorem StP.ofrz {i : Nat} {a : Addr} {vs : List V} {c0 : Cell} {od : Obj} {ds : List D} (R : Rel ε φ ρ μ σ H) (hi : ρ[i]? = some (.own c0)) (hs : σ[i]? = some (some (.ref a))) (h : H a = some (.lst vs)) (y : EncL ε φ H vs ds) :
    StP ε φ ρ σ H φ (ρ.set i (.val (.lst ds))) μ σ (upd H a (.frz od (.lst vs))) := by
  have g : Grow H (upd H a (.frz od (.lst vs))) := grow_upd (no_t h) (no_f h)
  have m := ownA_get hi hs
  have es : σ.set i (some (.ref a)) = σ := by
    apply List.ext_getElem?
    intro k
    by_cases hk : i = k
    · subst hk
      rw [List.getElem?_set_self (List.getElem?_eq_some_iff.mp hs).1, hs]
    · rw [List.getElem?_set_ne hk]
  have sub : ∀ b ∈ ownA (ρ.set i (.val (.lst ds))) σ, b ∈ ownA ρ σ := fun b hb => by
    rw [← es] at hb
    exact own_set (s := .val (.lst ds)) (fun _ z => nomatch z) b hb
  have nd : (ownA (ρ.set i (.val (.lst ds))) σ).Nodup := by
    rw [← es]
    exact nodup_ownA_set (s := .val (.lst ds)) (fun _ _ z => nomatch z) R.nd
  refine ⟨⟨R.sto.out (R.dj a m) g, slots_at (s := .val (.lst ds)) g ⟨.ref a, rfl, .lst (.inl ⟨od, upd_same⟩) (y.grow g)⟩ R.slots hi hs R.nd, nd, fun b hb => R.dj b (sub b hb)⟩, ⟨[], by simp, fun _ h => by simp at h⟩, g, fun b e z => ?_, fun b o e n1 n2 => ?_, fun b hb => .inl (sub b hb)⟩
  · by_cases hb : b = a
    · rw [hb, upd_same] at z; cases z
    · rw [upd_ne hb] at z; exact e z
  · rw [upd_ne (fun z => n2 (by rw [z]; exact m))]; exact e
theorem ownS_ok {i : Nat} {ds : List D} (h : ownS ρ i = some ds) : ρ[i]? = some (.own (.lst ds)) := by
  unfold ownS at h
  split at h
  · rename_i e; cases h; exact e
  · cases h
theorem st_freeze {st : Stmt} {i : Nat} {is : IS} (h : PS X st (rdSt ε Γ is)) : PS X st (rdSt ε Γ (.freeze i is)) := by
  refine ⟨fun pins s σ H D I ⟨φ, ρ, μ, fl, ρ', μ', R, e, q⟩ => ?_⟩
  simp only [evS, Option.bind_eq_some_iff] at e
  obtain ⟨ds, e1, e2⟩ := e
  have hi := ownS_ok e1
  obtain ⟨a, hs, hc, _, _⟩ := R.own hi
  cases hc with
  | lst h1 h2 =>
    obtain ⟨od, I1⟩ := I.lock h1 trivial
    have x := StP.ofrz (od := od) R hi hs h1 h2
    exact h.run pins s σ _ D I1 ⟨φ, _, μ, fl, ρ', μ', x.rel, e2, q.pre x⟩

/-! ### o[i] = e and kin -/
theorem st_setIx {o i e : Expr} {io ii ie : IE} {pos pos' : Pos} (nc : notComp e = true) (ok : okE i = true) (ho : PE X o (rdE ε Γ io)) (hi : PE X i (rdE ε Γ ii)) (he : PE X e (rdE ε Γ ie)) :
    PS X (.Assign [.Subscript o i pos'] e pos) (rdSt ε Γ (.setIx io ii ie)) := by
  have ha : ∀ v, assign (.Subscript o i pos') X.env v = (do
      let ov ← holding [v] (eval o X.env)
      let iv ← holding [v, ov] (eval i X.env)
      standAt pos'
      holding [v, ov, iv] (setItem ov iv v)
      release [v, ov, iv] []) := fun v => by cases i <;> first | rfl | (simp [okE] at ok)
  have sw : swapsWithSole [.Subscript o i pos'] e pos.line X.env = pure false := by
    show swapsWith e (some (.Subscript o i pos')) pos.line X.env = pure false
    exact swap_no nc
  refine PS.imp (ps_asg he (pg_sub ho hi set_list ha) sw) fun D σ H ⟨φ, ρ, μ, fl, ρ', μ', R, e, q⟩ => ?_
  simp only [evS, Option.bind_eq_some_iff] at e
  obtain ⟨⟨d, μ1⟩, e1, ⟨r, μ2⟩, e2, ⟨k, μ3⟩, e3, e4⟩ := e
  refine ⟨φ, ρ, μ, d, μ1, R, e1, fun φ1 v1 H1 x1 y1 => ⟨φ1, ρ, μ1, r, μ2, R.step x1, e2, fun φ2 v2 H2 x2 y2 => ⟨φ2, ρ, μ2, k, μ3, (R.step x1).step x2, e3, fun φ3 v3 H3 x3 y3 => ?_⟩⟩⟩
  split at e4
  · rename_i n ds m hl hk
    obtain rfl : k = .int m := hk
    simp only [Option.map_eq_some_iff] at e4
    obtain ⟨j, ej, e5⟩ := e4
    cases e5
    cases y3
    obtain ⟨a, vs, rfl, hn, h1, h2⟩ := lst_at x3.sto (x3.ext.enc y2) hl
    refine ⟨a, vs, m, j, rfl, rfl, h1, by rw [h2.length]; exact ej, ?_⟩
    have x4 := Res.lset x3.sto hn h1 (EncL.set j h2 ((x2.trans x3).ext.enc y1))
    exact q φ3 σ _ (.of R (((x1.trans x2).trans x3).trans x4))
  · cases e4
theorem st_setKy (C : CxOk ε T Γ S X) {o i e : Expr} {io ii ie : IE} {pos pos' : Pos} (nc : notComp e = true) (ho : PE X o (rdE ε Γ io)) (hi : PE X i (rdE ε Γ ii)) (he : PE X e (rdE ε Γ ie)) :
    PS X (.Assign [.Subscript o i pos'] e pos) (rdSt ε Γ (.setKy io ii ie)) := by
  refine PS.imp (ps_dput (by have := C.hu; omega) ho hi he (swap_no nc)) fun D σ H ⟨φ, ρ, μ, fl, ρ', μ', R, e, q⟩ => ?_
  simp only [evS, Option.bind_eq_some_iff] at e
  obtain ⟨⟨d, μ1⟩, e1, ⟨r, μ2⟩, e2, ⟨k, μ3⟩, e3, e4⟩ := e
  refine ⟨φ, ρ, μ, d, μ1, R, e1, fun φ1 v1 H1 x1 y1 => ⟨φ1, ρ, μ1, r, μ2, R.step x1, e2, fun φ2 v2 H2 x2 y2 => ⟨φ2, ρ, μ2, k, μ3, (R.step x1).step x2, e3, fun φ3 v3 H3 x3 y3 => ?_⟩⟩⟩
  split at e4
  · rename_i n hk
    obtain rfl : r = .ref n := hk
    split at e4
    · rename_i kvs en
      split at e4
      · rename_i hz
        simp only [Option.map_eq_some_iff] at e4
        obtain ⟨y, ek, e5⟩ := e4
        cases e5
        cases x3.ext.enc y2 with
        | ref hn =>
          rename_i a
          obtain ⟨ks, h1, h2⟩ := dic_at x3.sto hn en
          rw [keyD_ok y3 ek]
          refine ⟨a, _, rfl, DPut.k h1 (by rw [h2.len]; exact hz), ?_⟩
          have nt : ∀ xs, H3 a ≠ some (.tup xs) := fun xs e => by rw [h1] at e; cases e
          have nf : ∀ q u, H3 a ≠ some (.frz q u) := fun q u e => by rw [h1] at e; cases e
          have x4 : Res ε φ3 H3 φ3 (μ3.set n (.dic (FH.setK kvs y d))) (upd H3 a (.dK (putK ks y v1))) := Res.set x3.sto hn nt nf (.dic upd_same (by
            have z := (h2.setK (k := y) ((x2.trans x3).ext.enc y1)).mono [] (grow_upd (o := .dK (putK ks y v1)) nt nf)
            rwa [List.append_nil] at z))
          exact q φ3 σ _ (.of R (((x1.trans x2).trans x3).trans x4))
      · cases e4
    · cases e4
  · cases e4
end
end FH
end
section
/-! FH12: statements: more of what is changed. -/
namespace FH
open PySem PySem.Spec PyProof.Rows L2
section
variable {ε : Ev} {T : Tab} {Γ : Env2} {S : SC} {X : Cx} {φ φ' : List Addr} {H H' : Hp} {μ μ' : Store} {ρ ρ' : Slots} {σ σ' : L2.St}
/-- an item of a tracked list, by values -/
def rGetL : V → V → Hp → VK → Prop := fun o i H Q => ∃ p xs k v, o = .ref p ∧ i = .int k ∧ H p = some (.lst xs) ∧ atI xs k = some v ∧ Q v H
theorem get_list : PGet X rGetL := by
  intro pins s σ H o i ov iv Q I ro ri ⟨p, xs, k, v, e1, e2, hp, hv, q⟩
  subst e1; subst e2
  cases ro
  obtain ⟨t, rfl⟩ := ri
  obtain ⟨its, n, r, ho, hz⟩ := I.lst hp
  obtain ⟨j, h1, h2, h3, h4, h5⟩ := atI_get hv
  have hl := r.length
  have hn := line63
  obtain ⟨u, hu, ru⟩ := r.get h2
  have hlist : s.heap.IsList p its.toArray := ⟨_, ho, rfl, _, rfl⟩
  by_cases h0 : 0 ≤ k
  · have hk : k.toNat = j := by
      rw [seqIndex_of h0 h5] at h1
      exact Option.some.inj h1
    exact wpAny_getItem_list (x := u) hlist h0 (by omega) (by rw [hk]; simpa using hu) ⟨v, H, I, ru, q⟩
  · have hk : (k + (its.toArray.size : Int)).toNat = j := by
      rw [seqIndex_neg (by omega) h4] at h1
      rw [List.size_toArray, ← hl]
      exact Option.some.inj h1
    exact wpAny_getItem_list_neg (x := u) hlist (by omega) (by rw [List.size_toArray, ← hl]; exact h4) (by omega) (by rw [hk]; simpa using hu) ⟨v, H, I, ru, q⟩
theorem EncL.atI {vs : List V} {ds : List D} {i : Int} {d : D} (h : EncL ε φ H vs ds) (e : L2.atI ds i = some d) : ∃ v, L2.atI vs i = some v ∧ Enc ε φ H v d := by
  unfold L2.atI at e ⊢
  rw [h.length]
  cases ej : ixN ds.length i with
  | none => rw [ej] at e; cases e
  | some j => rw [ej] at e; exact h.get e
theorem st_augIx {o i e : Expr} {io ii ie : IE} {op : Operator} {pos tpos : Pos} (ok : okE i = true) (hop : op = .Add) (ho : PE X o (rdE ε Γ io)) (hi : PE X i (rdE ε Γ ii)) (he : PE X e (rdE ε Γ ie)) :
    PS X (.AugAssign (.Subscript o i tpos) op e pos) (rdSt ε Γ (.augIx op io ii ie)) := by
  subst hop
  have ha : ∀ ov iv new, augStore i ov iv new = (do holding [new, ov, iv] (setItem ov iv new); release [new, ov, iv] []; pure .next) := fun ov iv new => by cases i <;> first | rfl | (simp [okE] at ok)
  refine PS.imp (ps_augS ho hi get_list he ip_add set_list ha) fun D σ H ⟨φ, ρ, μ, fl, ρ', μ', R, e, q⟩ => ?_
  simp only [evS, Option.bind_eq_some_iff] at e
  obtain ⟨⟨r, μ1⟩, e1, ⟨k, μ2⟩, e2, e3⟩ := e
  refine ⟨φ, ρ, μ, r, μ1, R, e1, fun φ1 v1 H1 x1 y1 => ⟨φ1, ρ, μ1, k, μ2, R.step x1, e2, fun φ2 v2 H2 x2 y2 => ?_⟩⟩
  split at e3
  · rename_i n0 ds0 m hl hk
    obtain rfl : k = .int m := hk
    simp only [Option.bind_eq_some_iff] at e3
    obtain ⟨v, ev, ⟨x, μ3⟩, e4, e5⟩ := e3
    obtain ⟨a, vs, rfl, hn, h1, h2⟩ := lst_at x2.sto (x2.ext.enc y1) hl
    obtain ⟨w, hw, yw⟩ := h2.atI ev
    cases y2
    refine ⟨a, vs, m, w, rfl, rfl, h1, hw, φ2, ρ, μ2, x, μ3, (R.step x1).step x2, e4, fun φ3 v3 H3 x3 y3 => ?_⟩
    have key : ∃ p b, v = .int p ∧ x = .int b := by cases v <;> cases x <;> first | exact ⟨_, _, rfl, rfl⟩ | (simp at e5)
    obtain ⟨p, b, rfl, rfl⟩ := key
    simp only at e5
    cases yw
    cases y3
    split at e5
    · rename_i n es hl2
      simp only [Option.map_eq_some_iff] at e5
      obtain ⟨j, ej, e6⟩ := e5
      cases e6
      obtain ⟨a', ws, ea, hn', k1, k2⟩ := lst_at x3.sto ((x2.trans x3).ext.enc y1) hl2
      cases ea
      refine ⟨p, b, rfl, rfl, a, ws, m, j, rfl, rfl, k1, by rw [k2.length]; exact ej, ?_⟩
      have x4 := Res.lset x3.sto hn' k1 (EncL.set j k2 (.int (p + b)))
      exact q φ3 σ _ (.of R (((x1.trans x2).trans x3).trans x4))
    · cases e5
  · cases e3
theorem st_aug (C : CxOk ε T Γ S X) {i : Nat} {x : Str} {e : Expr} {ie : IE} {op : Operator} {pos pos' : Pos} (hop : op = .Add) (h : S.N[i]? = some x) (hl : locB S x = true) (he : PE X e (rdE ε Γ ie)) : PS X (.AugAssign (.Name x pos') op e pos) (rdSt ε Γ (.aug op i ie)) := by
  subst hop
  obtain ⟨h1, h2⟩ := locB_ok C hl
  refine PS.imp (ps_aug (i := i) (by rw [C.N]; exact C.nd) (by rw [C.N]; exact h) h1 he ip_add h2) fun D σ H ⟨φ, ρ, μ, fl, ρ', μ', R, e, q⟩ => ?_
  simp only [evS, Option.bind_eq_some_iff] at e
  obtain ⟨v, e1, ⟨x, μ1⟩, e2, e3⟩ := e
  obtain ⟨w, hw, yw⟩ := R.slot e1
  refine ⟨w, hw, φ, ρ, μ, x, μ1, R, e2, fun φ1 v1 H1 x1 y1 => ?_⟩
  have key : ∃ p b, v = .int p ∧ x = .int b := by cases v <;> cases x <;> first | exact ⟨_, _, rfl, rfl⟩ | (simp at e3)
  obtain ⟨p, b, rfl, rfl⟩ := key
  simp only at e3
  cases e3
  cases yw
  cases y1
  exact ⟨p, b, rfl, rfl, q φ1 _ H1 ((StP.of R x1).val (.int (p + b)))⟩

/-! ### fields -/
theorem Res.ins {n c : Nat} {a dx : Addr} {fs gs : List (Str × V)} {ds : List (Str × D)} (St : Sto ε φ μ H) (hn : φ[n]? = some a) (h : H a = some (.ins (ε.ca c) dx fs)) (y : EncK ε φ H gs ds) :
    Res ε φ H φ (μ.set n (.ins c ds)) (L2.upd H a (.ins (ε.ca c) dx gs)) := by
  have nt : ∀ xs, H a ≠ some (.tup xs) := fun xs e => by rw [h] at e; cases e
  have nf : ∀ q u, H a ≠ some (.frz q u) := fun q u e => by rw [h] at e; cases e
  refine Res.set St hn nt nf (.ins upd_same ?_)
  have z := y.mono [] (grow_upd (o := .ins (ε.ca c) dx gs) nt nf)
  rwa [List.append_nil] at z
theorem st_setAt (C : CxOk ε T Γ S X) {o e : Expr} {f : Str} {io ie : IE} {c : Nat} {I0 : CI} {pos pos' : Pos} (nc : notComp e = true) (hc : T.c[c]? = some I0) (hf : I0.flds.contains f = true) (ho : PE X o (rdE ε Γ io)) (he : PE X e (rdE ε Γ ie)) :
    PS X (.Assign [.Attribute o f pos'] e pos) (rdSt ε Γ (.setAt c io f ie)) := by
  have K := C.cls c I0 hc
  refine PS.imp (ps_fld ho he (swap_no nc)) fun D σ H ⟨φ, ρ, μ, fl, ρ', μ', R, e, q⟩ => ?_
  simp only [evS, Option.bind_eq_some_iff] at e
  obtain ⟨⟨x, μ1⟩, e1, ⟨r, μ2⟩, e2, ⟨n, fs⟩, e3, e4⟩ := e
  refine ⟨φ, ρ, μ, x, μ1, R, e1, fun φ1 v1 H1 x1 y1 => ⟨φ1, ρ, μ1, r, μ2, R.step x1, e2, fun φ2 v2 H2 x2 y2 => ?_⟩⟩
  obtain ⟨a, dx, gs, rfl, hn, h1, h2⟩ := ins_at x2.sto y2 e3
  split at e4
  · rename_i hz
    cases e4
    refine ⟨a, _, dx, gs, rfl, h1, K.cl, K.fld f hf, by rw [h2.len]; exact hz, ?_⟩
    exact q φ2 σ _ (.of R ((x1.trans x2).trans (Res.ins x2.sto hn h1 (h2.put (x2.ext.enc y1)))))
  · cases e4
/-- o.f = .. as one of several targets -/
def gAttr (K : PySem.W.Frag) (to : TE) (f : Str) : TG := fun v σ H Q => to σ H fun x H1 => ∃ a C dx fs, x = .ref a ∧ H1 a = some (.ins C dx fs) ∧ Cls K C ∧ NoAttr K C f ∧ fs.length < 1000 ∧ Q σ (upd H1 a (.ins C dx (putF f v fs)))
theorem pg_attr {o : Expr} {f : Str} {pos : Pos} {to : TE} (ho : PE X o to) : PG X (.Attribute o f pos) (gAttr X.K to f) := by
  refine ⟨fun pins s σ H v u Q I r h => ?_⟩
  show wpAny _ _ (do let ov ← holding [u] (eval o X.env); standAt pos.atName; holding [u, ov] (setAttr ov f u); release [u, ov] []) _ _ _
  refine wpAny_bind (wpAny_holding (thn (ho.run pins s σ H _ I h) fun ov s1 ⟨x, H1, I1, r1, a, C, dx, fs, ex, ea, c, n, l, q⟩ => ?_))
  subst ex
  obtain rfl : ov = Value.ref a := r1
  exact wpAny_bind (wpAny_standAt (wpAny_bind (wpAny_holding (setattr_ok I1 ea c n l r fun s2 I2 => wpAny_release ⟨σ, _, I2, q⟩))))
end
end FH
end
section
/-! FH13: statements: the rest. -/
namespace FH
open PySem PySem.Spec PyProof.Rows L2
section
variable {ε : Ev} {T : Tab} {Γ : Env2} {S : SC} {X : Cx} {φ φ' : List Addr} {H H' : Hp} {μ μ' : Store} {ρ ρ' : Slots} {σ σ' : L2.St}
def nameB : Expr → Bool
  | .Name .. => true | _ => false
def nmL (env : Env) (line : Nat) : Expr → Option Str
  | .Name id pos => if env.kindOf id == some .local && pos.line == line then some id else none
  | _ => none
theorem not_name {e : Expr} (h : nameB e = false) {env : Env} {line : Nat} : nmL env line e = none := by
  cases e <;> first | rfl | (simp [nameB] at h)
/-- stores that are not swapped -/
def noSwap : Expr → Expr → Bool
  | .Tuple ts _ _, .Tuple vs _ _ => !(ts.length == 2 || ts.length == 3) || vs.length != ts.length || ts.any fun t => !nameB t
  | .List .., _ => false
  | _, _ => true
theorem names_lt {ts : List Expr} {env : Env} {line : Nat} (h : (ts.any fun t => !nameB t) = true) : (ts.filterMap (nmL env line)).length < ts.length := by
  induction ts with
  | nil => cases h
  | cons t ts ih =>
    have le : (ts.filterMap (nmL env line)).length ≤ ts.length := List.length_filterMap_le _ _
    rw [List.any_cons] at h
    rw [List.filterMap_cons]
    cases ht : nameB t with
    | false =>
      rw [not_name ht]
      simp only [List.length_cons]
      omega
    | true =>
      rw [ht] at h
      have := ih (by simpa using h)
      split <;> simp only [List.length_cons] <;> omega
theorem noSwap_tup {ts vs : List Expr} {kt kv : Nat} {pt pv : Pos} {env : Env} (h : noSwap (.Tuple ts kt pt) (.Tuple vs kv pv) = true) : swappedStores [.Tuple ts kt pt] (.Tuple vs kv pv) env = pure none := by
  unfold swappedStores
  have h : (!(ts.length == 2 || ts.length == 3) || vs.length != ts.length || ts.any fun t => !nameB t) = true := h
  simp only [Bool.or_eq_true] at h
  show (if !(ts.length == 2 || ts.length == 3) || vs.length != ts.length || env.blockKind != .function then _ else _) = _
  split
  · rfl
  · rename_i hn
    simp only [Bool.or_eq_true, not_or] at hn
    have h3 : (ts.any fun t => !nameB t) = true := h.elim (fun h => h.elim (fun h => absurd h (by simpa using hn.1.1)) fun h => absurd h (by simpa using hn.1.2)) id
    split
    · rfl
    · have hl := names_lt (env := env) (line := (ts.head?.map (·.pos.line)).getD 0) h3
      show (if ((ts.filterMap (nmL env ((ts.head?.map (·.pos.line)).getD 0))).length != ts.length || _) = true then _ else _) = _
      rw [if_pos]
      simp only [Bool.or_eq_true, bne_iff_ne, ne_eq]
      left; omega
theorem noSwap_ok {t e : Expr} {env : Env} (h : noSwap t e = true) : swappedStores [t] e env = pure none := by
  cases t with
  | Tuple ts kt pt =>
    cases e with
    | Tuple vs kv pv => exact noSwap_tup h
    | _ => rfl
  | List ts pt => cases h
  | _ => rfl
/-- a pair of names stored from the right -/
def starB : Expr → Bool
  | .Starred .. => true | _ => false
def folds (a b : Expr) : Bool := (foldedForSure 8 a && foldedForSure 8 b) || (constantsAlone 8 a && constantsAlone 8 b)
theorem swap2 {x y : Str} {px py pt pt2 : Pos} {kt k2 : Nat} {a b : Expr} {env : Env} (hk : env.scope.kind = .function) (hx : env.scope.names.lookup x = some .local) (hy : env.scope.names.lookup y = some .local) (hl : lineB py px = true) (hxy : x ≠ y) (ha : starB a = false) (hb : starB b = false)
    (hf : folds a b = false) : swappedStores [.Tuple [.Name x px, .Name y py] kt pt] (.Tuple [a, b] k2 pt2) env = pure (some [x, y]) := by
  have kx : env.kindOf x = some .local := hx
  have ky : env.kindOf y = some .local := hy
  have kb : env.blockKind = .function := by unfold Env.blockKind; rw [hk]; rfl
  unfold folds at hf
  simp only [Bool.or_eq_false_iff] at hf
  unfold swappedStores
  show (if !(true || _) || _ || env.blockKind != .function then _ else _) = _
  rw [kb]
  show (if ([a, b].any fun | .Starred .. => true | _ => false) then _ else _) = _
  have hs : ([a, b].any fun | .Starred .. => true | _ => false) = false := by
    have k : [a, b].any starB = false := by simp [ha, hb]
    have e : (fun | .Starred .. => true | _ => false : Expr → Bool) = starB := by funext z; cases z <;> rfl
    rw [e]; exact k
  rw [hs]
  have hn : ([Expr.Name x px, Expr.Name y py].filterMap (nmL env px.line)) = [x, y] := by
    have hl' : (py.line == px.line) = true := hl
    simp [nmL, kx, ky, hl']
  show (if (([Expr.Name x px, Expr.Name y py].filterMap (nmL env px.line)).length != 2 || ([Expr.Name x px, Expr.Name y py].filterMap (nmL env px.line)).eraseDups.length != ([Expr.Name x px, Expr.Name y py].filterMap (nmL env px.line)).length) = true then _ else _) = _
  rw [hn]
  have he : [x, y].eraseDups = [x, y] := by
    rw [List.eraseDups_cons]
    have h1 : (y == x) = false := by simpa using fun e => hxy e.symm
    have h2 : (List.filter (fun b => !b == x) [y]) = [y] := by rw [List.filter_cons]; simp [h1]
    rw [h2]; rfl
  rw [he]
  show (if [a, b].all (foldedForSure 8) then _ else _) = _
  have h1 : [a, b].all (foldedForSure 8) = false := by simpa using hf.1
  have h2 : [a, b].all (constantsAlone 8) = false := by simpa using hf.2
  rw [h1]
  show (if [a, b].all (constantsAlone 8) then _ else _) = _
  rw [h2]
  show (pure (some ([Expr.Name x px, Expr.Name y py].filterMap (nmL env px.line))) : Sem (Option (List Str))) = _
  rw [hn]
end
end FH
end
section
/-! FH14: statements: pairs, fields two at once, lists that grow. -/
namespace FH
open PySem PySem.Spec PyProof.Rows L2
section
variable {ε : Ev} {T : Tab} {Γ : Env2} {S : SC} {X : Cx} {φ φ' : List Addr} {H H' : Hp} {μ μ' : Store} {ρ ρ' : Slots} {σ σ' : L2.St}
/-- what a name is to be given, ready -/
def InOk (ε : Ev) (H0 : Hp) (φ : List Addr) (H : Hp) (v : V) : Slot → Prop
  | .val d => Enc ε φ H v d
  | .own (.lst ds) => ∃ p vs, v = .ref p ∧ H0 p = none ∧ p ∉ φ ∧ H p = some (.lst vs) ∧ EncL ε φ H vs ds
  | _ => False
def rdIn (ε : Ev) (Γ : Env2) (i : In) : TE := fun σ H Q => ∃ φ ρ μ s μ', Rel ε φ ρ μ σ H ∧ evIn Γ i ρ μ = some (s, μ') ∧ ∀ φ' v H', Res ε φ H φ' μ' H' → InOk ε H φ' H' v s → Q v H'
theorem in_v {e : Expr} {ie : IE} (h : PE X e (rdE ε Γ ie)) : PE X e (rdIn ε Γ (.v ie)) := PE.imp h fun σ H Q ⟨φ, ρ, μ, s, μ', R, e, q⟩ => by
  simp only [evIn, Option.map_eq_some_iff] at e
  obtain ⟨⟨d, μ1⟩, e1, e2⟩ := e
  cases e2
  exact ⟨φ, ρ, μ, d, _, R, e1, fun φ1 v H1 x y => q φ1 v H1 x y⟩
theorem in_o {e : Expr} {f : FE} (h : PE X e (rdF ε Γ f)) : PE X e (rdIn ε Γ (.o f)) := PE.imp h fun σ H Q ⟨φ, ρ, μ, s, μ', R, e, q⟩ => by
  simp only [evIn, Option.map_eq_some_iff] at e
  obtain ⟨⟨ds, μ1⟩, e1, e2⟩ := e
  cases e2
  refine ⟨φ, ρ, μ, ds, _, R, e1, fun φ1 H1 p n => ?_⟩
  obtain ⟨vs, h1, h2⟩ := n.it
  exact q φ1 _ H1 n.res ⟨p, vs, rfl, n.free, n.out, h1, h2⟩
theorem InOk.step {H0 : Hp} {v : V} {s : Slot} (x : Ext φ H φ' H') (h : InOk ε H0 φ H v s) : InOk ε H0 φ' H' v s := by
  cases s with
  | emp => exact h
  | val d => exact x.enc h
  | own c =>
    cases c with
    | dic _ => exact h
    | tup _ => exact h
    | ins _ _ => exact h
    | lst ds =>
      obtain ⟨p, vs, e, f, o, h1, h2⟩ := h
      refine ⟨p, vs, e, f, fun z => ?_, x.keep p _ h1 o, x.encL h2⟩
      obtain ⟨p2, rfl, f2⟩ := x.more
      rcases List.mem_append.mp z with z | z
      · exact o z
      · rw [f2 p z] at h1; cases h1
theorem InOk.slot {H0 : Hp} {v : V} {s : Slot} (h : InOk ε H0 φ H v s) : SlotOk ε φ H s (some v) := by
  cases s with
  | emp => trivial
  | val d => exact ⟨v, rfl, h⟩
  | own c =>
    cases c with
    | dic _ => exact h.elim
    | tup _ => exact h.elim
    | ins _ _ => exact h.elim
    | lst ds =>
      obtain ⟨p, vs, rfl, f, o, h1, h2⟩ := h
      exact ⟨p, rfl, .lst h1 h2⟩
theorem InOk.free {H0 : Hp} {v : V} {c : Cell} {a : Addr} (h : InOk ε H0 φ H v (.own c)) (e : some v = some (.ref a)) : H0 a = none ∧ a ∉ φ ∧ ∃ o, H a = some o := by
  cases c with
  | dic _ => exact h.elim
  | tup _ => exact h.elim
  | ins _ _ => exact h.elim
  | lst ds =>
    obtain ⟨p, vs, rfl, f, o, h1, h2⟩ := h
    cases e
    exact ⟨f, o, _, h1⟩
theorem StP.two {φ1 φ2 : List Addr} {μ1 μ2 : Store} {H1 H2 : Hp} {i j : Nat} {s1 s2 : Slot} {v1 v2 : V} (R : Rel ε φ ρ μ σ H) (x1 : Res ε φ H φ1 μ1 H1) (y1 : InOk ε H φ1 H1 v1 s1) (x2 : Res ε φ1 H1 φ2 μ2 H2) (y2 : InOk ε H1 φ2 H2 v2 s2) :
    StP ε φ ρ σ H φ2 ((ρ.set i s1).set j s2) μ2 ((σ.set i (some v1)).set j (some v2)) H2 := by
  have x := x1.trans x2
  have z := StP.of R x
  have y1' := y1.step x2.ext
  have old : ∀ a ∈ ownA ρ σ, ∃ o, H a = some o := ownA_there R.slots
  have none1 : ∀ a, H1 a = none → H a = none := fun a ha => by
    cases e : H a with
    | none => rfl
    | some o => exact absurd ha (x1.ext.there a (by rw [e]; simp))
  have R1 : Rel ε φ2 (ρ.set i s1) μ2 (σ.set i (some v1)) H2 := z.rel.put y1'.slot fun c a e1 e2 => by
    subst e1
    obtain ⟨f, o, _⟩ := y1'.free e2
    refine ⟨fun m => ?_, o⟩
    obtain ⟨u, hu⟩ := old a m
    rw [f] at hu; cases hu
  refine ⟨R1.put y2.slot fun c a e1 e2 => ?_, z.more, z.grow, z.there, z.keep, fun a ha => ?_⟩
  · subst e1
    obtain ⟨f, o, _⟩ := y2.free e2
    refine ⟨fun m => ?_, o⟩
    rcases mem_ownA_set m with m | ⟨c', e3, e4⟩
    · obtain ⟨u, hu⟩ := old a m
      rw [none1 a f] at hu; cases hu
    · subst e3
      obtain ⟨_, _, u, hu⟩ := y1.free e4
      rw [f] at hu; cases hu
  · rcases mem_ownA_set ha with ha | ⟨c, e1, e2⟩
    · rcases mem_ownA_set ha with ha | ⟨c, e1, e2⟩
      · exact .inl ha
      · subst e1; exact .inr (y1.free e2).1
    · subst e1; exact .inr (none1 a (y2.free e2).1)
theorem st_par (C : CxOk ε T Γ S X) {i j : Nat} {x y : Str} {a b : Expr} {ia ib : In} {px py pt pos pt2 : Pos} {kt k2 : Nat} (hk : S.sc.kind = .function) (hi : S.N[i]? = some x) (hj : S.N[j]? = some y) (hij : i ≠ j) (hxy : x ≠ y) (hx : S.sc.names.lookup x = some .local) (hy : S.sc.names.lookup y = some .local)
    (hl : lineB py px = true) (oka : okE a = true) (okb : okE b = true) (hf : folds a b = false) (ha : PE X a (rdIn ε Γ ia)) (hb : PE X b (rdIn ε Γ ib)) :
    PS X (.Assign [.Tuple [.Name x px, .Name y py] kt pt] (.Tuple [a, b] k2 pt2) pos) (rdSt ε Γ (.par i j ia ib)) := by
  have sa : starB a = false := by cases a <;> first | rfl | (simp [okE] at oka)
  have sb : starB b = false := by cases b <;> first | rfl | (simp [okE] at okb)
  refine PS.imp (ps_par C.calm (by rw [C.N]; exact C.nd) (by rw [C.N]; exact hi) (by rw [C.N]; exact hj) hij (by rw [C.sc]; exact hx) (by rw [C.sc]; exact hy) (pa_cons ha (pa_cons hb pa_nil (star_cons okb)) (star_cons oka))
    (swap2 (by rw [C.sc]; exact hk) (by rw [C.sc]; exact hx) (by rw [C.sc]; exact hy) hl hxy sa sb hf)) fun D σ H ⟨φ, ρ, μ, fl, ρ', μ', R, e, q⟩ => ?_
  simp only [evS, Option.bind_eq_some_iff, Option.map_eq_some_iff] at e
  obtain ⟨⟨s1, μ1⟩, e1, ⟨s2, μ2⟩, e2, ρ1, e3, ρ2, e4, e5⟩ := e
  cases e5
  obtain ⟨rfl, _⟩ := setS_ok e3
  obtain ⟨rfl, _⟩ := setS_ok e4
  refine ⟨φ, ρ, μ, s1, μ1, R, e1, fun φ1 v1 H1 x1 y1 => ⟨φ1, ρ, μ1, s2, _, R.step x1, e2, fun φ2 v2 H2 x2 y2 => ⟨v1, v2, rfl, ?_⟩⟩⟩
  exact q φ2 _ H2 (.two R x1 y1 x2 y2)

/-! ### two fields at once -/
theorem putD_len (f : Str) (d : D) : ∀ fs : List (Str × D), (putD f d fs).length ≤ fs.length + 1
  | [] => Nat.le_refl _
  | (g, w) :: r => by
    have := putD_len f d r
    unfold putD
    split <;> simp only [List.length_cons] <;> omega
theorem st_setAt2 (C : CxOk ε T Γ S X) {x : Str} {f g : Str} {a b : Expr} {ia ib : IE} {i c : Nat} {I0 : CI} {p1 p2 p3 p4 pt pt2 pos : Pos} {kt k2 : Nat} (h : S.N[i]? = some x) (hv : visB S.sc x = true) (hn : nameOk x = true) (hc : T.c[c]? = some I0) (hf : I0.flds.contains f = true) (hg : I0.flds.contains g = true)
    (oka : okE a = true) (okb : okE b = true) (ha : PE X a (rdE ε Γ ia)) (hb : PE X b (rdE ε Γ ib)) :
    PS X (.Assign [.Tuple [.Attribute (.Name x p1) f p2, .Attribute (.Name x p3) g p4] kt pt] (.Tuple [a, b] k2 pt2) pos) (rdSt ε Γ (.setAt2 c i f g ia ib)) := by
  simp only [nameOk, Bool.and_eq_true, Bool.not_eq_true'] at hn
  have K := C.cls c I0 hc
  have vx : ∀ p, PE X (.Name x p) (tVar i) := fun p => pe_var (i := i) (by rw [C.N]; exact h) (by rw [C.sc]; exact visB_ok hv) hn.1.1 hn.1.2
  have sw : swappedStores [.Tuple [.Attribute (.Name x p1) f p2, .Attribute (.Name x p3) g p4] kt pt] (.Tuple [a, b] k2 pt2) X.env = pure none := noSwap_ok rfl
  refine PS.imp (ps_asg (pe_tup (pa_cons ha (pa_cons hb pa_nil (star_cons okb)) (star_cons oka))) (pg_tup (n := 2) C.calm (pgs_cons (pg_attr (f := f) (pos := p2) (vx p1)) (pgs_cons (pg_attr (f := g) (pos := p4) (vx p3)) pgs_nil))) (by rfl) sw) fun D σ H ⟨φ, ρ, μ, fl, ρ', μ', R, e, q⟩ => ?_
  simp only [evS, Option.bind_eq_some_iff] at e
  obtain ⟨⟨d1, μ1⟩, e1, ⟨d2, μ2⟩, e2, d, e3, ⟨n, fs⟩, e4, e5⟩ := e
  refine ⟨φ, ρ, μ, d1, μ1, R, e1, fun φ1 v1 H1 x1 y1 => ⟨φ1, ρ, μ1, d2, μ2, R.step x1, e2, fun φ2 v2 H2 x2 y2 => ?_⟩⟩
  split at e5
  · rename_i hz
    cases e5
    refine ⟨show 2 ≤ sizeLine by decide, fun p hp => ?_⟩
    have x3 : Res ε φ2 H2 φ2 μ2 (L2.upd H2 p (.tup [v1, v2])) := .ex x2.sto (Ex.new hp)
    have R3 := ((R.step x1).step x2).step x3
    obtain ⟨w, hw, yw⟩ := R3.slot e3
    obtain ⟨o, dx, gs, rfl, hn2, h1, h2⟩ := ins_at x3.sto yw e4
    have k1 := x3.ext.enc (x2.ext.enc y1)
    have k2 := x3.ext.enc y2
    have x4 := Res.ins x3.sto hn2 h1 (h2.put (f := f) k1)
    have h2' : EncK ε φ2 (L2.upd (L2.upd H2 p (.tup [v1, v2])) o (.ins (ε.ca c) dx (putF f v1 gs))) (putF f v1 gs) (putD f d1 fs) := by
      have z := (h2.put (f := f) k1).mono [] x4.ext.grow
      rwa [List.append_nil] at z
    have x5 := Res.ins (n := n) x4.sto hn2 upd_same (h2'.put (f := g) (x4.ext.enc k2))
    have hl := h2.len
    have hz : fs.length < 999 := hz
    refine ⟨p, [v1, v2], rfl, SqT.of upd_same, rfl, v1, [v2], rfl, .ref o, hw, o, _, dx, gs, rfl, h1, K.cl, K.fld f hf, by omega, v2, [], rfl, .ref o, hw, o, _, dx, _, rfl, upd_same, K.cl, K.fld g hg, ?_, rfl, ?_⟩
    · have := (h2.put (f := f) k1).len
      have l2 := putD_len f d1 fs
      omega
    · exact q φ2 σ _ (.of R ((((x1.trans x2).trans x3).trans x4).trans x5))
  · cases e5

/-! ### o.append(e), x.extend(..) -/
theorem bm1 {o e : Expr} {m : Str} {T : String} {id : String} {r : V → List V → Hp → VK → Prop} {to te : TE} {apos cpos : Pos} (pa : PlainAttrs T) (slot : PySem.Slot T m id) (hty : typeOf (.builtin id) = pure (.type "method_descriptor")) (hm : MtR X id r) (okO : objB o = true) (ok : okE e = true) (hl : (apos.endLine == cpos.line) = true)
    (ho : PE X o to) (he : PE X e te) : PE X (.Call (.Attribute o m apos) [e] [] cpos) (tBM X.K T r to (tCons te tNil)) := by
  have h1 := star_cons (es := []) (env := X.env) ok
  have h3 : starEach ([] : List Expr) X.env = [] := rfl
  exact pe_bm pa slot hty hm ho (pa_cons he pa_nil h1) (base_ok okO) (by rw [h1, h3]; rfl) hl h1 (by rw [h3]; rfl)
theorem tyV_lst {K : PySem.W.Frag} {a : Addr} {vs : List V} (h : H a = some (.lst vs)) : tyV K "list" (.ref a) H := .inl ⟨rfl, vs, SqL.of h⟩
theorem st_app {o e : Expr} {io ie : IE} {apos cpos pos : Pos} (okO : objB o = true) (ok : okE e = true) (hl : (apos.endLine == cpos.line) = true) (ho : PE X o (rdE ε Γ io)) (he : PE X e (rdE ε Γ ie)) :
    PS X (.Expr (.Call (.Attribute o "append" apos) [e] [] cpos) pos) (rdSt ε Γ (.app io ie)) := by
  refine PS.imp (ps_expr (bm1 PySem.F.plainAttrs_list PySem.F.slot_list_append PySem.F.type_list_append mt_append okO ok hl ho he)) fun D σ H ⟨φ, ρ, μ, fl, ρ', μ', R, e, q⟩ => ?_
  simp only [evS, Option.bind_eq_some_iff] at e
  obtain ⟨⟨r, μ1⟩, e1, ⟨n0, ds0⟩, e2, ⟨x, μ2⟩, e3, ⟨n, ds⟩, e4, e5⟩ := e
  refine ⟨φ, ρ, μ, r, μ1, R, e1, fun φ1 v1 H1 x1 y1 => ?_⟩
  obtain ⟨a0, vs0, rfl, _, g1, _⟩ := lst_at x1.sto y1 e2
  refine ⟨tyV_lst g1, φ1, ρ, μ1, x, μ2, R.step x1, e3, fun φ2 v2 H2 x2 y2 => ?_⟩
  obtain ⟨a, vs, ea, hn, h1, h2⟩ := lst_at x2.sto (x2.ext.enc y1) e4
  cases ea
  split at e5
  · rename_i hz
    cases e5
    refine ⟨a0, vs, v2, rfl, rfl, h1, by rw [h2.length]; exact hz, ?_⟩
    exact q φ2 σ _ (.of R ((x1.trans x2).trans (Res.lset x2.sto hn h1 (h2.app (.cons y2 .nil)))))
  · cases e5
theorem st_appOwn (C : CxOk ε T Γ S X) {x : Str} {e : Expr} {i : Nat} {ie : IE} {xp apos cpos pos : Pos} (h : S.N[i]? = some x) (hv : visB S.sc x = true) (hn : nameOk x = true) (ok : okE e = true) (hl : (apos.endLine == cpos.line) = true) (he : PE X e (rdE ε Γ ie)) :
    PS X (.Expr (.Call (.Attribute (.Name x xp) "append" apos) [e] [] cpos) pos) (rdSt ε Γ (.appOwn i ie)) := by
  simp only [nameOk, Bool.and_eq_true, Bool.not_eq_true'] at hn
  have vx : PE X (.Name x xp) (tVar i) := pe_var (i := i) (by rw [C.N]; exact h) (by rw [C.sc]; exact visB_ok hv) hn.1.1 hn.1.2
  refine PS.imp (ps_expr (bm1 PySem.F.plainAttrs_list PySem.F.slot_list_append PySem.F.type_list_append mt_append rfl ok hl vx he)) fun D σ H ⟨φ, ρ, μ, fl, ρ', μ', R, e, q⟩ => ?_
  simp only [evS, Option.bind_eq_some_iff] at e
  obtain ⟨ds, e1, ⟨x, μ1⟩, e2, e3⟩ := e
  have hi := ownS_ok e1
  obtain ⟨a, hs, hc, na, _⟩ := R.own hi
  cases hc with
  | lst c1 c2 =>
    rename_i vs
    refine ⟨_, hs, tyV_lst c1, φ, ρ, μ, x, μ1, R, e2, fun φ1 v1 H1 x1 y1 => ?_⟩
    split at e3
    · rename_i hz
      cases e3
      obtain ⟨_, k1⟩ := x1.outs c1 na
      refine ⟨a, vs, v1, rfl, rfl, k1, by rw [c2.length]; exact hz, ?_⟩
      exact q φ1 σ _ ((StP.of R x1).trans (.oset (R.step x1) hi hs k1 ((x1.ext.encL c2).app (.cons y1 .nil))))
    · cases e3
theorem st_extOwn (C : CxOk ε T Γ S X) {x : Str} {e : Expr} {i : Nat} {f : FE} {xp apos cpos pos : Pos} (h : S.N[i]? = some x) (hv : visB S.sc x = true) (hn : nameOk x = true) (ok : okE e = true) (hl : (apos.endLine == cpos.line) = true) (he : PE X e (rdF ε Γ f)) :
    PS X (.Expr (.Call (.Attribute (.Name x xp) "extend" apos) [e] [] cpos) pos) (rdSt ε Γ (.extOwn i f)) := by
  simp only [nameOk, Bool.and_eq_true, Bool.not_eq_true'] at hn
  have vx : PE X (.Name x xp) (tVar i) := pe_var (i := i) (by rw [C.N]; exact h) (by rw [C.sc]; exact visB_ok hv) hn.1.1 hn.1.2
  refine PS.imp (ps_expr (bm1 PySem.F.plainAttrs_list PySem.F.slot_list_extend PySem.F.type_list_extend mt_extend rfl ok hl vx he)) fun D σ H ⟨φ, ρ, μ, fl, ρ', μ', R, e, q⟩ => ?_
  simp only [evS, Option.bind_eq_some_iff] at e
  obtain ⟨ds, e1, ⟨es, μ1⟩, e2, e3⟩ := e
  have hi := ownS_ok e1
  obtain ⟨a, hs, hc, na, _⟩ := R.own hi
  cases hc with
  | lst c1 c2 =>
    rename_i vs
    refine ⟨_, hs, tyV_lst c1, φ, ρ, μ, es, μ1, R, e2, fun φ1 H1 p n => ?_⟩
    split at e3
    · rename_i hz
      cases e3
      obtain ⟨_, k1⟩ := n.res.outs c1 na
      obtain ⟨ws, n1, n2⟩ := n.it
      refine ⟨a, p, vs, ws, rfl, rfl, k1, n1, by rw [c2.length, n2.length]; exact hz, ?_⟩
      exact q φ1 σ _ ((StP.of R n.res).trans (.oset (R.step n.res) hi hs k1 ((n.res.ext.encL c2).app n2)))
    · cases e3
end
end FH
end
section
/-! FH15: methods of texts and tuples, a dict that the top wrote. -/
namespace FH
open PySem PySem.Spec PyProof.Rows L2
section
variable {ε : Ev} {T : Tab} {Γ : Env2} {S : SC} {X : Cx} {φ φ' : List Addr} {H H' : Hp} {μ' : Store} {ρ : Slots} {μ : Store} {σ : L2.St}
theorem strsD_ok : ∀ {ds : List D} {ys : List Str} {vs : List V}, EncL ε φ H vs ds → strsD ds = some ys → vs = ys.map V.str
  | [], _, _, h, e => by cases h; cases e; rfl
  | d :: ds, _, _, h, e => by
    cases h with
    | cons q r =>
      cases d <;> (first | (exfalso; simp [strsD] at e; done) | skip)
      simp only [strsD, Option.map_eq_some_iff] at e
      obtain ⟨zs, e1, rfl⟩ := e
      cases q
      rw [strsD_ok r e1]; rfl
theorem findI_ok {z : Str} : ∀ {ys : List Str} {j : Nat}, findI z ys = some j → ys[j]? = some z ∧ ∀ m, m < j → ys[m]? ≠ some z
  | [], _, h => by cases h
  | y :: ys, j, h => by
    unfold findI at h
    split at h
    · rename_i e; cases h; exact ⟨by rw [e]; rfl, fun m hm => absurd hm (Nat.not_lt_zero m)⟩
    · rename_i e
      simp only [Option.map_eq_some_iff] at h
      obtain ⟨i, hi, rfl⟩ := h
      obtain ⟨h1, h2⟩ := findI_ok hi
      refine ⟨by simpa using h1, fun m hm => ?_⟩
      cases m with
      | zero => simpa using e
      | succ m => simpa using h2 m (by omega)
/-- the name, the receiver's type, the function's id -/
def mthOf : M → String × String × String
  | .sindex => ("index", "str", "str.index") | .join => ("join", "str", "str.join")
def rM (ε : Ev) (m : M) : V → List V → Hp → VK → Prop := fun x vs H Q => ∃ φ d ds z, Enc ε φ H x d ∧ VwL ε φ H vs ds ∧ methD m d ds = some z ∧ ∀ v H', Ex H H' → Enc ε φ H' v z → Q v H'
theorem MtR.imp {id : String} {r r' : V → List V → Hp → VK → Prop} (h : MtR X id r) (k : ∀ x xs H Q, r' x xs H Q → r x xs H Q) : MtR X id r' := fun pins s σ H x xs v us Q I rx rs q => h pins s σ H x xs v us Q I rx rs (k x xs H Q q)
theorem mt_sindexD : MtR X "str.index" (rM ε .sindex) := by
  refine MtR.imp mt_sindex fun x xs H Q ⟨φ, d, ds, z, h1, h2, e, q⟩ => ?_
  unfold methD at e
  split at e <;> (first | (cases e; done) | skip)
  · cases h2 with
    | cons g1 g2 =>
      cases g2
      split at e
      · rename_i i rest ho
        cases e
        cases h1
        exact ⟨_, _, i, rest, rfl, by rw [g1.str], ho, q _ _ .refl (.int _)⟩
      · cases e
  · exact nomatch ‹M.sindex = M.join›
theorem mt_joinD (hK : ε.K = X.K) : MtR X "str.join" (rM ε .join) := by
  refine MtR.imp mt_join fun x xs H Q ⟨φ, d, ds, z, h1, h2, e, q⟩ => ?_
  unfold methD at e
  split at e <;> (first | (cases e; done) | skip)
  · exact nomatch ‹M.join = M.sindex›
  · cases h2 with
    | cons g1 g2 =>
      cases g2
      simp only [Option.bind_eq_some_iff] at e
      obtain ⟨ys, e1, e2⟩ := e
      split at e2
      · rename_i hz
        cases e2
        cases h1
        obtain ⟨a, vs, rfl, k1, k2⟩ := g1.lst
        rw [strsD_ok k2 e1] at k1
        exact ⟨_, a, ys, rfl, rfl, .inl (hK ▸ k1.sq), hz, q _ _ .refl (.str _)⟩
      · cases e2
theorem methD_ty {m : M} {d : D} {ds : List D} {z : D} {v : V} {K : PySem.W.Frag} (h : methD m d ds = some z) (y : Enc ε φ H v d) : tyV K "str" v H := by
  unfold methD at h
  split at h <;> (first | (cases h; done) | (cases y; rfl))
theorem bmS {o e : Expr} {m : Str} {T : String} {id : String} {r : V → List V → Hp → VK → Prop} {to : TE} {ta : TA} {apos cpos : Pos} (pa : PlainAttrs T) (slot : PySem.Slot T m id) (hty : typeOf (.builtin id) = pure (.type "method_descriptor")) (hm : MtR X id r) (okO : objB o = true) (ok : okE e = true) (hl : (apos.endLine == cpos.line) = true)
    (ho : PE X o to) (he : PA X [e] ta) : PE X (.Call (.Attribute o m apos) [e] [] cpos) (tBM X.K T r to ta) := by
  have h1 := star_cons (es := []) (env := X.env) ok
  have h3 : starEach ([] : List Expr) X.env = [] := rfl
  exact pe_bm pa slot hty hm ho he (base_ok okO) (by rw [h1, h3]; rfl) hl h1 (by rw [h3]; rfl)
theorem meth_read {m : M} {io ie : IE} {σ : L2.St} {H : Hp} {Q : VK} (h : rdE ε Γ (.meth m io (.cons ie .nil)) σ H Q) : tBM X.K "str" (rM ε m) (rdE ε Γ io) (rdAO ε Γ (.cons ie .nil)) σ H Q := by
  obtain ⟨φ, ρ, μ, d, μ', R, e, q⟩ := h
  simp only [evE, Option.bind_eq_some_iff, Option.map_eq_some_iff] at e
  obtain ⟨⟨x, μ1⟩, e1, ⟨ds, μ2⟩, e2, z, e3, e4⟩ := e
  cases e4
  refine ⟨φ, ρ, μ, x, μ1, R, e1, fun φ1 v H1 x1 y1 => ⟨methD_ty e3 y1, φ1, ρ, μ1, ds, _, R.step x1, e2, fun φ2 vs H2 x2 y2 => ?_⟩⟩
  exact ⟨φ2, x, _, _, x2.ext.enc y1, y2.view x2.sto, e3, fin_ex (ρ := ρ) (x1.trans x2) q⟩
theorem sd_sindex {o e : Expr} {io ie : IE} {apos cpos : Pos} (okO : objB o = true) (ok : okE e = true) (hl : (apos.endLine == cpos.line) = true) (ho : PE X o (rdE ε Γ io)) (he : PE X e (rdO ε Γ ie)) :
    PE X (.Call (.Attribute o "index" apos) [e] [] cpos) (rdE ε Γ (.meth .sindex io (.cons ie .nil))) :=
  PE.imp (bmS PySem.F.plainAttrs_str PySem.F.slot_str_index PySem.F.type_str_index (mt_sindexD (ε := ε)) okO ok hl ho (so_cons he so_nil ok)) fun σ H Q h => meth_read h
theorem sd_join (C : CxOk ε T Γ S X) {o e : Expr} {io ie : IE} {apos cpos : Pos} (okO : objB o = true) (ok : okE e = true) (hl : (apos.endLine == cpos.line) = true) (ho : PE X o (rdE ε Γ io)) (he : PE X e (rdO ε Γ ie)) :
    PE X (.Call (.Attribute o "join" apos) [e] [] cpos) (rdE ε Γ (.meth .join io (.cons ie .nil))) :=
  PE.imp (bmS PySem.F.plainAttrs_str PySem.F.slot_str_join PySem.F.type_str_join (mt_joinD C.K) okO ok hl ho (so_cons he so_nil ok)) fun σ H Q h => meth_read h

/-! ### a display whose tuple is known to the object -/
def tTupX (t : TA) : TE := fun σ H Q => t σ H fun xs H1 => xs.length ≤ sizeLine ∧ ∀ (p : Addr) (o : Obj), H1 p = none → o.cls = .type "tuple" → o.dict = none → Q (.ref p) (upd H1 p (.frz o (.tup xs)))
theorem pe_tupX {es : List Expr} {t : TA} {j : Nat} {pos : Pos} (h : PA X es t) : PE X (.Tuple es j pos) (tTupX t) := by
  refine ⟨fun pins s σ H Q I hq => ?_⟩
  refine wpAny_Tuple_spliced (thn (h.run pos pins s σ H _ I hq) fun us s1 ⟨xs, H1, I1, rel, hz, q⟩ => ⟨by rw [← rel.length]; exact hz, ?_⟩)
  have new : H1 s1.heap.objs.size = none := I1.hok.fresh (Nat.le_refl _)
  have at_ := Heap.get?_push_size s1.heap (o := { cls := .type "tuple", data := .seq us.toArray }) rfl
  refine ⟨.ref s1.heap.objs.size, L2.upd H1 s1.heap.objs.size (.frz { cls := .type "tuple", data := .seq us.toArray } (.tup xs)), I1.laid (t' := s1.toks) (fun b u e => Heap.get?_push_of_some _ e) (Nat.le_refl _) ?_, rfl, q _ _ new rfl rfl⟩
  exact ⟨at_, hz, us, rel, _, at_, rfl, _, rfl⟩
theorem st_setTup (C : CxOk ε T Γ S X) {i : Nat} {x : Str} {es : List Expr} {ies : IEs} {j : Nat} {p2 pos pos' : Pos} (h : S.N[i]? = some x) (hl : locB S x = true) (he : PA X es (rdA ε Γ ies)) : PS X (.Assign [.Name x pos'] (.Tuple es j p2) pos) (rdSt ε Γ (.setTup i ies)) := by
  obtain ⟨h1, h2⟩ := locB_ok C hl
  refine PS.imp (ps_set (i := i) (by rw [C.N]; exact C.nd) (by rw [C.N]; exact h) h1 (pe_tupX he) (swap_no rfl) h2) fun D σ H ⟨φ, ρ, μ, fl, ρ', μ', R, e, q⟩ => ?_
  simp only [evS, Option.bind_eq_some_iff] at e
  obtain ⟨⟨ds, μ1⟩, e1, e2⟩ := e
  refine ⟨φ, ρ, μ, ds, μ1, R, e1, fun φ1 vs H1 x1 y1 => ?_⟩
  split at e2
  · rename_i hz
    have hz : ds.length ≤ sizeLine := hz
    simp only [Option.map_eq_some_iff] at e2
    obtain ⟨ρ1, e3, e4⟩ := e2
    cases e4
    have e4' := (setS_ok e3).1
    subst e4'
    refine ⟨by rw [y1.length]; exact hz, fun p o hp hc hd => ?_⟩
    have g : Ex H1 (L2.upd H1 p (.frz o (.tup vs))) := Ex.new hp
    have x2 := x1.trans (Res.ex x1.sto g)
    have free : H p = none := by
      cases e : H p with
      | none => rfl
      | some u => exact absurd hp (x1.ext.there p (by rw [e]; simp))
    have z := StP.of R x2
    have np : p ∉ ownA ρ σ := fun m => by
      obtain ⟨u, e⟩ := ownA_there R.slots p m
      rw [free] at e; cases e
    have np2 : p ∉ φ1 := fun m => by
      obtain ⟨u, e⟩ := x1.sto.there m
      rw [hp] at e; cases e
    refine q φ1 _ _ ⟨z.rel.put (s := .own (.tup ds)) (o := some (.ref p)) ⟨p, rfl, .tup upd_same hc hd (y1.grow g.grow)⟩ fun c a e5 e6 => ?_, z.more, z.grow, z.there, z.keep, fun a ha => ?_⟩
    · cases e6; exact ⟨np, np2⟩
    · rcases mem_ownA_set ha with ha | ⟨c, e5, e6⟩
      · exact .inl ha
      · cases e6; exact .inr free
  · cases e2
theorem tupS_ok {i : Nat} {ds : List D} (h : tupS ρ i = some ds) : ρ[i]? = some (.own (.tup ds)) := by
  unfold tupS at h
  split at h
  · rename_i e; cases h; exact e
  · cases h
theorem sd_tindex (C : CxOk ε T Γ S X) {i : Nat} {x : Str} {e : Expr} {ie : IE} {xp apos cpos : Pos} (h : S.N[i]? = some x) (hv : visB S.sc x = true) (hn : nameOk x = true) (ok : okE e = true) (hl : (apos.endLine == cpos.line) = true) (he : PE X e (rdE ε Γ ie)) :
    PE X (.Call (.Attribute (.Name x xp) "index" apos) [e] [] cpos) (rdE ε Γ (.tindex i ie)) := by
  simp only [nameOk, Bool.and_eq_true, Bool.not_eq_true'] at hn
  have vx : PE X (.Name x xp) (tVar i) := pe_var (i := i) (by rw [C.N]; exact h) (by rw [C.sc]; exact visB_ok hv) hn.1.1 hn.1.2
  have h1 := star_cons (es := []) (env := X.env) ok
  have h3 : starEach ([] : List Expr) X.env = [] := rfl
  refine ⟨fun pins s σ H Q I ⟨φ, ρ, μ, d, μ', R, ev, q⟩ => ?_⟩
  simp only [evE, Option.bind_eq_some_iff] at ev
  obtain ⟨ds, e1, ⟨z0, μ1⟩, e2, e3⟩ := ev
  split at e3
  · rename_i z hz
    obtain rfl : z0 = .str z := hz
    simp only [Option.bind_eq_some_iff, Option.map_eq_some_iff] at e3
    obtain ⟨ys, e4, k, e5, e6⟩ := e3
    cases e6
    have hi := tupS_ok e1
    obtain ⟨a, hs, hc, na, _⟩ := R.own hi
    cases hc with
    | tup c1 c2 c3 c4 =>
      rename_i o vs
      refine wpAny_Call_method_late (base_ok rfl) (by rw [h1, h3]; rfl) hl rfl (thn (vx.run pins s σ H (fun v H1 => v = .ref a ∧ H1 = H) I ⟨_, hs, rfl, rfl⟩) fun u s1 ⟨v, H1, I1, r1, w1, w2⟩ => ?_)
      subst w1; subst w2
      obtain rfl : u = Value.ref a := r1
      obtain ⟨g1, _⟩ := I1.hok a _ c1
      refine ⟨"tuple", "tuple.index", PySem.F.plainAttrs_tuple, PySem.F.slot_tuple_index, PySem.F.type_tuple_index, ⟨o, g1, c2⟩, fun b e => by cases e; exact ⟨o, g1, c3⟩, ?_⟩
      have hA := (pa_cons he pa_nil h1).run cpos pins s1 σ _ _ I1 (show tCons (rdE ε Γ ie) tNil σ _ (fun vs1 H2 => vs1 = [.str z] ∧ ∃ φ2, Res ε φ _ φ2 _ H2) from
        ⟨φ, ρ, μ, .str z, _, R, e2, fun φ2 v2 H2 x2 y2 => by cases y2; exact ⟨rfl, φ2, x2⟩⟩)
      rw [h1] at hA ⊢
      refine Calls.callWith_builtin (by show (false || (backTo cpos (starEach ([] : List Expr) X.env)).any (·.1)) = false; rw [h3]; rfl) (Calls.evalArgs_plain ?_)
      refine thn hA fun us s2 ⟨vs2, H2, I2, r2, w3, φ2, x2⟩ => ?_
      subst w3
      obtain ⟨f1, f2⟩ := findI_ok e5
      obtain ⟨_, k1⟩ := x2.outs c1 na
      have hq : SqT X.K H2 a (ys.map V.str) := by rw [← strsD_ok c4 e4]; exact .inl (.inr ⟨_, k1⟩)
      exact mt_tup_index pins s2 σ H2 (.ref a) [.str z] (.ref a) us Q I2 rfl r2 ⟨a, ys, z, k, rfl, rfl, hq, f1, f2, q φ2 _ H2 x2 (.int _)⟩
  · cases e3
/-! ### a dict that the top wrote, texts its keys -/
theorem sd_gdget (C : CxOk ε T Γ S X) {x : Str} {kvs : List (Str × D)} {k : Expr} {ik : IE} {xp pos : Pos} (hg : glB S.sc x = true) (hn : nameOk x = true) (ht : T.look x = .dct kvs) (ok : okE k = true) (hk : PE X k (rdE ε Γ ik)) : PE X (.Subscript (.Name x xp) k pos) (rdE ε Γ (.gdget x kvs ik)) := by
  simp only [nameOk, Bool.and_eq_true, Bool.not_eq_true'] at hn
  have g := C.gl x
  rw [ht] at g
  obtain ⟨a, g1, g2⟩ := g
  refine PE.imp (pe_ix ix_kdict (pe_glob (v := .ref a) (glB_ok C hg) g1 rfl hn.1.1) hk (plain_ix ok)) fun σ H Q ⟨φ, ρ, μ, d, μ', R, e, q⟩ => ?_
  simp only [evE, Option.bind_eq_some_iff] at e
  obtain ⟨⟨z0, μ1⟩, e1, e2⟩ := e
  refine ⟨φ, ρ, μ, z0, μ1, R, e1, fun φ1 v H1 x1 y1 => ?_⟩
  split at e2
  · rename_i z hz
    obtain rfl : z0 = .str z := hz
    simp only [Option.map_eq_some_iff] at e2
    obtain ⟨d1, e3, e4⟩ := e2
    cases e4
    cases y1
    obtain ⟨w, w1, w2⟩ := g2 z _ e3
    exact ⟨a, z, w, rfl, rfl, w1, q φ1 w H1 x1 (w2 φ1 H1)⟩
  · cases e2
/-- len(d) -/
theorem sd_dlen (C : CxOk ε T Γ S X) {a : Expr} {ia : IE} {xp pos : Pos} (hg : glB S.sc "len" = true) (ht : T.look "len" = .no) (ha : PE X a (rdE ε Γ ia)) (ok : okE a = true) : PE X (.Call (.Name "len" xp) [a] [] pos) (rdE ε Γ (.dlen ia)) := by
  have g := C.gl "len"
  rw [ht] at g
  refine PE.imp (pe_callB L2.call_lenD (glB_ok C hg) g (by decide +kernel) (pa_cons ha pa_nil (star_cons ok)) (by decide +kernel) (by decide +kernel) (star_cons ok) rfl) fun σ H Q ⟨φ, ρ, μ, d, μ', R, e, q⟩ => ?_
  simp only [evE, Option.bind_eq_some_iff] at e
  obtain ⟨⟨x, μ1⟩, e1, e2⟩ := e
  refine ⟨φ, ρ, μ, x, μ1, R, e1, fun φ1 v H1 x1 y1 => ?_⟩
  split at e2
  · rename_i n hx
    obtain rfl : x = .ref n := hx
    split at e2
    · rename_i kvs en
      cases e2
      cases y1 with
      | ref hn =>
        obtain ⟨ks, h1, h2⟩ := dic_at x1.sto hn en
        exact ⟨_, ks, rfl, h1, by rw [h2.len]; exact q φ1 _ H1 x1 (.int _)⟩
    · cases e2
  · cases e2
/-- x.split(y): a new list -/
theorem sf_split {o e : Expr} {io ie : IE} {apos cpos : Pos} (okO : objB o = true) (ok : okE e = true) (hl : (apos.endLine == cpos.line) = true) (ho : PE X o (rdE ε Γ io)) (he : PE X e (rdE ε Γ ie)) :
    PE X (.Call (.Attribute o "split" apos) [e] [] cpos) (rdF ε Γ (.split io ie)) := by
  refine PE.imp (bmS PySem.F.plainAttrs_str PySem.F.slot_str_split PySem.F.type_str_split mt_split okO ok hl ho (sa_cons he sa_nil ok)) fun σ H Q ⟨φ, ρ, μ, ds, μ', R, e, q⟩ => ?_
  simp only [evF, Option.bind_eq_some_iff] at e
  obtain ⟨⟨x, μ1⟩, e1, ⟨y, μ2⟩, e2, e3⟩ := e
  split at e3
  · rename_i z w hz hw
    obtain rfl : x = .str z := hz
    obtain rfl : y = .str w := hw
    split at e3
    · rename_i hc
      cases e3
      refine ⟨φ, ρ, μ, .str z, μ1, R, e1, fun φ1 v H1 x1 y1 => ?_⟩
      cases y1
      refine ⟨rfl, φ1, ρ, μ1, [.str w], μ2, R.step x1, by simp only [evEs, Option.bind_eq_some_iff, Option.map_eq_some_iff]; exact ⟨_, e2, _, rfl, rfl⟩, fun φ2 vs H2 x2 y2 => ?_⟩
      cases y2 with
      | cons h1 h2 =>
        cases h1; cases h2
        refine ⟨z, w, rfl, rfl, by simpa using hc.1, hc.2, fun p hp => q φ2 _ p (.mk' (x1.trans x2) hp ?_)⟩
        have all : ∀ l : List Str, EncL ε φ2 H2 (l.map V.str) (l.map D.str) := fun l => by
          induction l with
          | nil => exact .nil
          | cons a l ih => exact .cons (.str a) ih
        exact all _
    · cases e3
  · cases e3
end
end FH
end
section
/-! FH16: the look that ties a term to a piece of the text. -/
namespace FH
open PySem PySem.Spec PyProof.Rows L2
mutual
def D.same : D → D → Bool
  | .non, .non => true
  | .bl a, .bl b => a == b
  | .int a, .int b => decide (a = b)
  | .str a, .str b => decide (a = b)
  | .tup a, .tup b => sameL a b
  | .lst a, .lst b => sameL a b
  | .fn a, .fn b => decide (a = b)
  | .ref a, .ref b => decide (a = b)
  | .ty a, .ty b => decide (a = b)
  | _, _ => false
def sameL : List D → List D → Bool
  | [], [] => true
  | a :: as, b :: bs => a.same b && sameL as bs
  | _, _ => false
end
mutual
theorem same_ok : ∀ {a b : D}, D.same a b = true → a = b
  | a, b, h => by
    cases a <;> cases b <;> simp only [D.same, beq_iff_eq, decide_eq_true_eq, Bool.false_eq_true] at h <;> (first | rfl | (rw [h]; done) | (rw [sameL_ok h]; done))
theorem sameL_ok : ∀ {a b : List D}, sameL a b = true → a = b
  | [], [], _ => rfl
  | [], _ :: _, h => by simp [sameL] at h
  | _ :: _, [], h => by simp [sameL] at h
  | a :: as, b :: bs, h => by
    simp only [sameL, Bool.and_eq_true] at h
    rw [same_ok h.1, sameL_ok h.2]
end
def sameKv : List (Str × D) → List (Str × D) → Bool
  | [], [] => true
  | a :: as, b :: bs => decide (a.1 = b.1) && a.2.same b.2 && sameKv as bs
  | _, _ => false
theorem sameKv_ok : ∀ {a b : List (Str × D)}, sameKv a b = true → a = b
  | [], [], _ => rfl
  | [], _ :: _, h => by simp [sameKv] at h
  | _ :: _, [], h => by simp [sameKv] at h
  | (a, c) :: as, (b, d) :: bs, h => by
    simp only [sameKv, Bool.and_eq_true, decide_eq_true_eq] at h
    rw [h.1.1, same_ok h.1.2, sameKv_ok h.2]
def noG : G → Bool
  | .no => true | _ => false
def conG (d : D) : G → Bool
  | .con e => e.same d | _ => false
def fnG (f : Nat) : G → Bool
  | .fn g => decide (g = f) | _ => false
def clsG (c : Nat) : G → Bool
  | .cls d => decide (d = c) | _ => false
def dctG (k : List (Str × D)) : G → Bool
  | .dct d => sameKv d k | _ => false
theorem noG_ok {g : G} (h : noG g = true) : g = .no := by cases g <;> first | rfl | (simp [noG] at h)
theorem conG_ok {g : G} {d : D} (h : conG d g = true) : g = .con d := by cases g <;> simp only [conG, Bool.false_eq_true] at h; rw [same_ok h]
theorem fnG_ok {g : G} {d : Nat} (h : fnG d g = true) : g = .fn d := by cases g <;> simp only [fnG, Bool.false_eq_true, decide_eq_true_eq] at h; rw [h]
theorem clsG_ok {g : G} {d : Nat} (h : clsG d g = true) : g = .cls d := by cases g <;> simp only [clsG, Bool.false_eq_true, decide_eq_true_eq] at h; rw [h]
theorem dctG_ok {g : G} {d : List (Str × D)} (h : dctG d g = true) : g = .dct d := by cases g <;> simp only [dctG, Bool.false_eq_true] at h; rw [sameKv_ok h]
def litB : D → Expr → Bool
  | .int i, .Constant (.int j) _ _ => decide (i = j)
  | .str i, .Constant (.str j) _ _ => decide (i = j)
  | .bl i, .Constant (.bool j) _ _ => i == j
  | .non, .Constant .none _ _ => true
  | _, _ => false
def nmB (S : SC) (i : Nat) : Expr → Bool
  | .Name x _ => decide (S.N[i]? = some x) && visB S.sc x && nameOk x
  | _ => false
/-- a name of the module that is read as a value -/
def globB (T : Tab) (S : SC) (x : Str) (d : D) : Expr → Bool
  | .Name y _ => decide (y = x) && glB S.sc x && nameOk x && (conG d (T.look x) || (match d with
    | .fn f => fnG f (T.look x)
    | .ty n => noG (T.look x) && decide (bootBuiltins x = some (.type n))
    | _ => false))
  | _ => false
/-- an operation's operands -/
def shapeP (T : Tab) (S : SC) : P → Expr → Option (List Expr)
  | .bin op, .BinOp a op' b _ => if op = op' then some [a, b] else none
  | .cmp op, .Compare a [op'] [b] _ => if op = op' then some [a, b] else none
  | .ix, .Subscript a b _ => some [a, b]
  | .neg, .UnaryOp .USub a _ => some [a]
  | p, .Call (.Name x _) (e :: es) [] _ => match bltOf p with
    | some (n, _) => if x = (n : Str) ∧ glB S.sc x = true ∧ noG (T.look x) = true then some (e :: es) else none
    | none => none
  | _, _ => none
def restB (op : BoolOp) (y : Expr) (rest : List Expr) (pos : Pos) : Expr := match rest with
  | [] => y
  | z :: zs => .BoolOp op (y :: z :: zs) pos
def fldC (T : Tab) (c : Nat) (f : Str) : Bool := match T.c[c]? with
  | some I => I.flds.contains f | none => false
def mthC (T : Tab) (c : Nat) (m : Str) (f : Nat) : Bool := match T.c[c]? with
  | some I => decide (I.meths.lookup m = some f) | none => false
def iniC (T : Tab) (c : Nat) (f : Nat) : Bool := match T.c[c]? with
  | some I => decide (I.init = some f) | none => false
/-- o.m(a ..): the receiver, the arguments -/
def shapeM (m : Str) : Expr → Option (Expr × List Expr)
  | .Call (.Attribute o n apos) l [] cpos => if n = m ∧ objB o = true ∧ (apos.endLine == cpos.line) = true then some (o, l) else none
  | _ => none
def shapeN (m : Str) : Expr → Option (List Expr)
  | .Call (.Name x _) l [] _ => if x = m then some l else none
  | _ => none
def mthName : M → Str
  | .sindex => "index" | .join => "join"
mutual
def chkTg : Tg → SC → Expr → Bool
  | .nm i, S, .Name x _ => decide (S.N[i]? = some x) && locB S x
  | .tp ts, S, .Tuple es _ _ => decide (es.length = tgsN ts) && es.all tgE && chkTgs ts S es
  | _, _, _ => false
def chkTgs : Tgs → SC → List Expr → Bool
  | .nil, _, [] => true
  | .cons t ts, S, e :: es => chkTg t S e && chkTgs ts S es
  | _, _, _ => false
end
mutual
def chkE (T : Tab) : IE → Bool → SC → Expr → Bool
  | .lit d, _, _, e => litB d e
  | .var i, _, S, e => nmB S i e
  | .own i, o, S, e => o && nmB S i e
  | .glob x d, _, S, e => globB T S x d e
  | .prim p es, _, S, e => match shapeP T S p e with
    | some l => chkEs T es true S l
    | none => false
  | .tindex i a, _, S, e => match shapeM "index" e with
    | some (x, [z]) => nmB S i x && okE z && chkE T a false S z
    | _ => false
  | .meth m a es, _, S, e => match shapeM (mthName m) e with
    | some (x, [z]) => chkE T a false S x && chkEs T es true S [z]
    | _ => false
  | .gdget x kvs k, _, S, e => match e with
    | .Subscript (.Name y _) z _ => decide (y = x) && glB S.sc x && nameOk x && dctG kvs (T.look x) && okE z && chkE T k false S z
    | _ => false
  | .slice a lo hi, _, S, e => match e with
    | .Subscript x (.Slice l h none _) _ => chkE T a true S x && chkO T lo S l && chkO T hi S h
    | _ => false
  | .nott a, _, S, e => match e with
    | .UnaryOp .Not x _ => chkE T a false S x
    | _ => false
  | .andd a b, _, S, e => match e with
    | .BoolOp .And (x :: y :: rest) pos => chkE T a false S x && chkE T b false S (restB .And y rest pos)
    | _ => false
  | .orr a b, _, S, e => match e with
    | .BoolOp .Or (x :: y :: rest) pos => chkE T a false S x && chkE T b false S (restB .Or y rest pos)
    | _ => false
  | .cond c a b, _, S, e => match e with
    | .IfExp x y z _ => chkE T c false S x && chkE T a false S y && chkE T b false S z
    | _ => false
  | .cmp2 o1 o2 a b c, _, S, e => match e with
    | .Compare x [p1, p2] [y, z] _ => decide (p1 = o1) && decide (p2 = o2) && okE z && chkE T a true S x && chkE T b true S y && chkE T c true S z
    | _ => false
  | .tup es, _, S, e => match e with
    | .Tuple l _ _ => chkEs T es false S l
    | _ => false
  | .frz f, _, S, e => chkF T f S e
  | .cell f, _, S, e => chkF T f S e
  | .celld, _, _, e => match e with
    | .Dict [] [] _ => true
    | _ => false
  | .dcopy a, _, S, e => match shapeN "dict" e with
    | some [z] => glB S.sc "dict" && noG (T.look "dict") && okE z && chkE T a false S z
    | _ => false
  | .dlen a, _, S, e => match shapeN "len" e with
    | some [z] => glB S.sc "len" && noG (T.look "len") && okE z && chkE T a false S z
    | _ => false
  | .call x f es, _, S, e => match shapeN x e with
    | some l => glB S.sc x && nameOk x && fnG f (T.look x) && chkEs T es false S l
    | none => false
  | .callv i es, _, S, e => match e with
    | .Call (.Name y _) (z :: l) [] _ => decide (S.N[i]? = some y) && visB S.sc y && nameOk y && chkEs T es false S (z :: l)
    | _ => false
  | .attr c a f, _, S, e => match e with
    | .Attribute x g _ => decide (g = f) && objB x && fldC T c f && chkE T a false S x
    | _ => false
  | .mcall c m f a es, _, S, e => match shapeM m e with
    | some (x, l) => mthC T c m f && decide (l.length < 30) && chkE T a false S x && chkEs T es false S l
    | none => false
  | .make x c f es, _, S, e => match shapeN x e with
    | some l => glB S.sc x && nameOk x && clsG c (T.look x) && iniC T c f && chkEs T es false S l
    | none => false
  | .dhas neg k d, _, S, e => match e with
    | .Compare x [op] [y] _ => decide (op = if neg then .NotIn else .In) && okE y && chkE T k false S x && chkE T d false S y
    | _ => false
  | .dget d k, _, S, e => match e with
    | .Subscript x y _ => okE y && chkE T d false S x && chkE T k false S y
    | _ => false
  | .dgetD d k z, _, S, e => match shapeM "get" e with
    | some (x, [y, w]) => okE y && okE w && chkE T d false S x && chkE T k false S y && chkE T z false S w
    | _ => false
  | .dsetd d k z, _, S, e => match shapeM "setdefault" e with
    | some (x, [y, w]) => okE y && okE w && chkE T d false S x && chkE T k false S y && chkE T z false S w
    | _ => false
def chkEs (T : Tab) : IEs → Bool → SC → List Expr → Bool
  | .nil, _, _, [] => true
  | .cons i is, o, S, e :: es => okE e && chkE T i o S e && chkEs T is o S es
  | _, _, _, _ => false
def chkO (T : Tab) : IO → SC → Option Expr → Bool
  | .no, _, none => true
  | .som i, S, some e => chkE T i false S e
  | _, _, _ => false
def chkC (T : Tab) : IO → SC → List Expr → Bool
  | .no, _, [] => true
  | .som i, S, [e] => chkE T i false S e
  | _, _, _ => false
def chkF (T : Tab) : FE → SC → Expr → Bool
  | .disp es, S, e => match e with
    | .List l _ => chkEs T es false S l
    | _ => false
  | .list a, S, e => match shapeN "list" e with
    | some [z] => glB S.sc "list" && noG (T.look "list") && okE z && chkE T a true S z
    | _ => false
  | .split a b, S, e => match shapeM "split" e with
    | some (x, [y]) => okE y && chkE T a false S x && chkE T b false S y
    | _ => false
  | .cat a b, S, e => match e with
    | .BinOp x .Add y _ => chkE T a true S x && chkE T b true S y
    | _ => false
  | .comp g own s c i, S, e => match e with
    | .ListComp elt [⟨tg, iter, ifs, z⟩] scope _ => decide (z = 0) && chkS T s S tg iter && blkC S.N S.sc scope own && chkTg g (S.inner scope) tg && chkC T c (S.inner scope) ifs && chkE T i false (S.inner scope) elt &&
        (tgI g).all (fun i => decide (i ∈ own.map (·.2))) && setB iter
    | _ => false
def chkS (T : Tab) : Src → SC → Expr → Expr → Bool
  | .it a, S, _, e => chkE T a false S e
  | .cel a, S, _, e => chkE T a false S e
  | .range1 a, S, _, e => match shapeN "range" e with
    | some [x] => glB S.sc "range" && noG (T.look "range") && okE x && chkE T a false S x
    | _ => false
  | .range2 a b, S, _, e => match shapeN "range" e with
    | some [x, y] => glB S.sc "range" && noG (T.look "range") && okE x && okE y && chkE T a false S x && chkE T b false S y
    | _ => false
  | .enum a, S, tg, e => match tg, shapeN "enumerate" e with
    | .Tuple _ _ _, some [x] => glB S.sc "enumerate" && noG (T.look "enumerate") && okE x && chkE T a false S x
    | _, _ => false
  | .zip a b, S, tg, e => match tg, shapeN "zip" e with
    | .Tuple _ _ _, some [x, y] => glB S.sc "zip" && noG (T.look "zip") && okE x && okE y && chkE T a false S x && chkE T b false S y
    | _, _ => false
end
end FH
end
section
/-! FH17: the look is right, for expressions. -/
namespace FH
open PySem PySem.Spec PyProof.Rows L2
structure Okay (ε : Ev) (Γ : Env2) (X : Cx) (e : Expr) (ie : IE) : Prop where
  pe : PE X e (rdE ε Γ ie)
  pt : PT X e (rdT ε Γ ie)
  pw : ∀ op l pos, e = .BoolOp op l pos → PW X e (rdT ε Γ ie)
def ptB : Expr → Bool
  | .UnaryOp .Not _ _ => false
  | .BoolOp .. => false
  | .IfExp .. => false
  | .Compare .. => false
  | _ => true
theorem isT_plain {e : Expr} (h : ptB e = true) (env : Env) (whole : Sem Value) : isTrue e env whole = (do let v ← whole; standAt e.pos; holding [v] (truthy v)) := by
  cases e with
  | UnaryOp op _ _ => cases op <;> first | rfl | (simp [ptB] at h)
  | _ => first | rfl | (simp [ptB] at h)
section
variable {ε : Ev} {T : Tab} {Γ : Env2} {S : SC} {X : Cx}
theorem Okay.of (C : CxOk ε T Γ S X) {e : Expr} {ie : IE} (hp : ptB e = true) (h : PE X e (rdE ε Γ ie)) : Okay ε Γ X e ie :=
  ⟨h, sd_pt C h (isT_plain hp X.env), fun op l pos z => by rw [z] at hp; simp [ptB] at hp⟩
def rdB (ε : Ev) (Γ : Env2) : Bool → IE → TE
  | true, i => rdO ε Γ i
  | false, i => rdE ε Γ i
def AllPE (ε : Ev) (Γ : Env2) (X : Cx) (o : Bool) : IEs → List Expr → Prop
  | .nil, [] => True
  | .cons i is, e :: es => okE e = true ∧ PE X e (rdB ε Γ o i) ∧ AllPE ε Γ X o is es
  | _, _ => False
theorem AllPE.pa : ∀ {is : IEs} {es : List Expr}, AllPE ε Γ X false is es → PA X es (rdA ε Γ is)
  | .nil, [], _ => sa_nil
  | .cons _ _, _ :: _, h => sa_cons h.2.1 (AllPE.pa h.2.2) h.1
  | .nil, _ :: _, h => h.elim
  | .cons _ _, [], h => h.elim
theorem AllPE.po : ∀ {is : IEs} {es : List Expr}, AllPE ε Γ X true is es → PA X es (rdAO ε Γ is)
  | .nil, [], _ => so_nil
  | .cons _ _, _ :: _, h => so_cons h.2.1 (AllPE.po h.2.2) h.1
  | .nil, _ :: _, h => h.elim
  | .cons _ _, [], h => h.elim
theorem AllPE.ok {o : Bool} : ∀ {is : IEs} {es : List Expr}, AllPE ε Γ X o is es → es.all okE = true
  | .nil, [], _ => rfl
  | .cons _ _, _ :: _, h => by rw [List.all_cons, h.1, AllPE.ok h.2.2]; rfl
  | .nil, _ :: _, h => h.elim
  | .cons _ _, [], h => h.elim
theorem AllPE.none {o : Bool} {is : IEs} {es : List Expr} (h : AllPE ε Γ X o is es) (e : es = []) : is = .nil := by
  subst e
  cases is with
  | nil => rfl
  | cons _ _ => exact h.elim
theorem AllPE.one {o : Bool} {is : IEs} {e : Expr} (h : AllPE ε Γ X o is [e]) : ∃ i, is = .cons i .nil ∧ okE e = true ∧ PE X e (rdB ε Γ o i) := by
  cases is with
  | nil => exact h.elim
  | cons i is => exact ⟨i, by rw [AllPE.none h.2.2 rfl], h.1, h.2.1⟩
theorem AllPE.two {o : Bool} {is : IEs} {e f : Expr} (h : AllPE ε Γ X o is [e, f]) : ∃ i j, is = .cons i (.cons j .nil) ∧ okE e = true ∧ PE X e (rdB ε Γ o i) ∧ okE f = true ∧ PE X f (rdB ε Γ o j) := by
  cases is with
  | nil => exact h.elim
  | cons i is =>
    obtain ⟨j, rfl, h1, h2⟩ := AllPE.one h.2.2
    exact ⟨i, j, rfl, h.1, h.2.1, h1, h2⟩
def SndE (ε : Ev) (T : Tab) (Γ : Env2) (ie : IE) : Prop := ∀ (S : SC) (X : Cx) (e : Expr), CxOk ε T Γ S X → (chkE T ie false S e = true → Okay ε Γ X e ie) ∧ (chkE T ie true S e = true → PE X e (rdO ε Γ ie))
def SndEs (ε : Ev) (T : Tab) (Γ : Env2) (is : IEs) : Prop := ∀ (S : SC) (X : Cx) (es : List Expr) (o : Bool), CxOk ε T Γ S X → chkEs T is o S es = true → AllPE ε Γ X o is es
def SndO (ε : Ev) (T : Tab) (Γ : Env2) (i : IO) : Prop := (∀ (S : SC) (X : Cx) (e : Option Expr), CxOk ε T Γ S X → chkO T i S e = true → PO X e (rdP ε Γ i)) ∧ ∀ (S : SC) (X : Cx) (e : List Expr), CxOk ε T Γ S X → chkC T i S e = true → PTs X e (rdC ε Γ i)
def SndS (ε : Ev) (T : Tab) (Γ : Env2) (s : Src) : Prop := ∀ (S : SC) (X : Cx) (tg e : Expr), CxOk ε T Γ S X → chkS T s S tg e = true → PI X tg e (rdS ε Γ s)
/-- a name is given a new list on one line -/
def setLcB (S : SC) (i : Nat) (y : Str) (py : Pos) : Expr → Bool
  | .ListComp _ _ scope pos => decide (S.sc.kind = .function) && decide (S.N[i]? = some y) && decide (S.sc.names.lookup y = some .local) && lineB py pos && !(scope.names.any fun p => p.1 == y && (p.2 == .local || p.2 == .cell))
  | e => notComp e && decide (S.N[i]? = some y) && locB S y
def SndF (ε : Ev) (T : Tab) (Γ : Env2) (f : FE) : Prop := ∀ (S : SC) (X : Cx) (e : Expr), CxOk ε T Γ S X → chkF T f S e = true → PE X e (rdF ε Γ f) ∧ ∀ i y py spos, setLcB S i y py e = true → PSF ε Γ X (.Assign [.Name y py] e spos) i f
theorem sndE_of {ie : IE} (h : ∀ (S : SC) (X : Cx) (e : Expr), CxOk ε T Γ S X → chkE T ie false S e = true → Okay ε Γ X e ie) (hh : ∀ S e, chkE T ie true S e = chkE T ie false S e) : SndE ε T Γ ie :=
  fun S X e C => ⟨h S X e C, fun q => FH.PE.rdO (h S X e C ((hh S e).symm.trans q)).pe⟩
theorem SndE.v {ie : IE} (h : SndE ε T Γ ie) (C : CxOk ε T Γ S X) {e : Expr} (q : chkE T ie false S e = true) : PE X e (rdE ε Γ ie) := ((h S X e C).1 q).pe
theorem SndE.o {ie : IE} (h : SndE ε T Γ ie) (C : CxOk ε T Γ S X) {e : Expr} (q : chkE T ie true S e = true) : PE X e (rdO ε Γ ie) := (h S X e C).2 q
theorem SndE.t {ie : IE} (h : SndE ε T Γ ie) (C : CxOk ε T Γ S X) {e : Expr} (q : chkE T ie false S e = true) : PT X e (rdT ε Γ ie) := ((h S X e C).1 q).pt
theorem sndF_of {f : FE} (h : ∀ (S : SC) (X : Cx) (e : Expr), CxOk ε T Γ S X → chkF T f S e = true → notComp e = true ∧ PE X e (rdF ε Γ f)) : SndF ε T Γ f := fun S X e C q => by
  obtain ⟨h1, h2⟩ := h S X e C q
  refine ⟨h2, fun i y py spos z => ?_⟩
  have z' : (notComp e && decide (S.N[i]? = some y) && locB S y) = true := by
    cases e <;> first | exact z | (simp [notComp] at h1)
  simp only [Bool.and_eq_true, decide_eq_true_eq] at z'
  exact psf_set C h1 z'.1.2 z'.2 h2
/-! ### one lemma a term -/
theorem nmB_ok {i : Nat} {e : Expr} (h : nmB S i e = true) : ∃ x p, e = .Name x p ∧ S.N[i]? = some x ∧ visB S.sc x = true ∧ nameOk x = true := by
  unfold nmB at h
  split at h
  · rename_i x p
    simp only [Bool.and_eq_true, decide_eq_true_eq] at h
    exact ⟨x, p, rfl, h.1.1, h.1.2, h.2⟩
  · cases h
theorem s_lit {d : D} : SndE ε T Γ (.lit d) := sndE_of (fun S X e C h => by
  simp only [chkE] at h
  unfold litB at h
  split at h
  · rw [of_decide_eq_true h]; exact .of C rfl sd_int
  · rw [of_decide_eq_true h]; exact .of C rfl sd_str
  · rw [beq_iff_eq.mp h]; exact .of C rfl sd_bl
  · exact .of C rfl sd_non
  · cases h) fun _ _ => rfl
theorem s_var {i : Nat} : SndE ε T Γ (.var i) := sndE_of (fun S X e C h => by
  simp only [chkE] at h
  obtain ⟨x, p, rfl, h1, h2, h3⟩ := nmB_ok h
  exact .of C rfl (sd_var C h1 h2 h3)) fun _ _ => rfl
theorem s_own {i : Nat} : SndE ε T Γ (.own i) := fun S X e C => ⟨fun h => by simp [chkE] at h, fun h => by
  simp only [chkE, Bool.true_and] at h
  obtain ⟨x, p, rfl, h1, h2, h3⟩ := nmB_ok h
  exact sd_own C h1 h2 h3⟩
theorem s_glob {x : Str} {d : D} : SndE ε T Γ (.glob x d) := sndE_of (fun S X e C h => by
  simp only [chkE] at h
  unfold globB at h
  split at h
  · rename_i y p
    simp only [Bool.and_eq_true, decide_eq_true_eq, Bool.or_eq_true] at h
    obtain ⟨⟨⟨rfl, h1⟩, h2⟩, h3⟩ := h
    rcases h3 with h3 | h3
    · exact .of C rfl (sd_glob C h1 h2 (conG_ok h3))
    · split at h3
      · exact .of C rfl (sd_gfn C h1 h2 (fnG_ok h3))
      · simp only [Bool.and_eq_true, decide_eq_true_eq] at h3
        exact .of C rfl (sd_ty C h1 h2 (noG_ok h3.1) h3.2)
      · cases h3
  · cases h) fun _ _ => rfl
theorem s_prim {p : P} {es : IEs} (h : SndEs ε T Γ es) : SndE ε T Γ (.prim p es) := sndE_of (fun S X e C q => by
  simp only [chkE] at q
  split at q
  · rename_i l hl
    have a := h S X l true C q
    unfold shapeP at hl
    split at hl
    · split at hl
      · rename_i ho; cases hl; subst ho
        obtain ⟨i, j, rfl, _, h1, _, h2⟩ := a.two
        exact .of C rfl (sp_bin C h1 h2)
      · cases hl
    · split at hl
      · rename_i ho; cases hl; subst ho
        obtain ⟨i, j, rfl, _, h1, ok, h2⟩ := a.two
        exact ⟨sp_cmp C ok h1 h2, st_cmp C ok h1 h2, fun _ _ _ z => nomatch z⟩
      · cases hl
    · cases hl
      obtain ⟨i, j, rfl, _, h1, ok, h2⟩ := a.two
      exact .of C rfl (sp_ix C ok h1 h2)
    · cases hl
      obtain ⟨i, rfl, _, h1⟩ := a.one
      exact .of C rfl (sp_neg h1)
    · split at hl
      · rename_i n u hb
        split at hl
        · rename_i hc
          cases hl
          exact .of C rfl (sp_blt C hb hc.1 hc.2.1 (noG_ok hc.2.2) a.po a.ok)
        · cases hl
      · cases hl
    · cases hl
  · cases q) fun _ _ => rfl
theorem shapeM_ok {m : Str} {e o : Expr} {l : List Expr} (h : shapeM m e = some (o, l)) : ∃ apos cpos, e = .Call (.Attribute o m apos) l [] cpos ∧ objB o = true ∧ (apos.endLine == cpos.line) = true := by
  unfold shapeM at h
  split at h
  · split at h
    · rename_i hc; cases h; obtain ⟨rfl, h2, h3⟩ := hc; exact ⟨_, _, rfl, h2, h3⟩
    · cases h
  · cases h
theorem shapeN_ok {m : Str} {e : Expr} {l : List Expr} (h : shapeN m e = some l) : ∃ xp cpos, e = .Call (.Name m xp) l [] cpos := by
  unfold shapeN at h
  split at h
  · split at h
    · rename_i hc; cases h; subst hc; exact ⟨_, _, rfl⟩
    · cases h
  · cases h
theorem s_tindex {i : Nat} {a : IE} (h : SndE ε T Γ a) : SndE ε T Γ (.tindex i a) := sndE_of (fun S X e C q => by
  simp only [chkE] at q
  split at q
  · rename_i x z hs
    obtain ⟨apos, cpos, rfl, h1, h2⟩ := shapeM_ok hs
    simp only [Bool.and_eq_true] at q
    obtain ⟨y, p, rfl, g1, g2, g3⟩ := nmB_ok q.1.1
    exact .of C rfl (sd_tindex C g1 g2 g3 q.1.2 h2 (h.v C q.2))
  · cases q) fun _ _ => rfl
theorem s_meth {m : M} {a : IE} {es : IEs} (h : SndE ε T Γ a) (hs : SndEs ε T Γ es) : SndE ε T Γ (.meth m a es) := sndE_of (fun S X e C q => by
  simp only [chkE] at q
  split at q
  · rename_i x z hh
    obtain ⟨apos, cpos, rfl, h1, h2⟩ := shapeM_ok hh
    simp only [Bool.and_eq_true] at q
    obtain ⟨i, rfl, ok, g⟩ := (hs S X [z] true C q.2).one
    cases m with
    | sindex => exact .of C rfl (sd_sindex h1 ok h2 (h.v C q.1) g)
    | join => exact .of C rfl (sd_join C h1 ok h2 (h.v C q.1) g)
  · cases q) fun _ _ => rfl
theorem s_gdget {x : Str} {kvs : List (Str × D)} {a : IE} (h : SndE ε T Γ a) : SndE ε T Γ (.gdget x kvs a) := sndE_of (fun S X e C q => by
  simp only [chkE] at q
  split at q
  · simp only [Bool.and_eq_true, decide_eq_true_eq] at q
    obtain ⟨⟨⟨⟨⟨rfl, q1⟩, q2⟩, q3⟩, q4⟩, q5⟩ := q
    exact .of C rfl (sd_gdget C q1 q2 (dctG_ok q3) q4 (h.v C q5))
  · cases q) fun _ _ => rfl
theorem s_slice {a : IE} {lo hi : IO} (h : SndE ε T Γ a) (h1 : SndO ε T Γ lo) (h2 : SndO ε T Γ hi) : SndE ε T Γ (.slice a lo hi) := sndE_of (fun S X e C q => by
  simp only [chkE] at q
  split at q
  · simp only [Bool.and_eq_true] at q
    exact .of C rfl (sd_slice C (h.o C q.1.1) (h1.1 S X _ C q.1.2) (h2.1 S X _ C q.2))
  · cases q) fun _ _ => rfl
theorem s_nott {a : IE} (h : SndE ε T Γ a) : SndE ε T Γ (.nott a) := sndE_of (fun S X e C q => by
  simp only [chkE] at q
  split at q
  · exact ⟨sd_not C (h.v C q), st_not (h.t C q), fun _ _ _ z => nomatch z⟩
  · cases q) fun _ _ => rfl
theorem rest_and {y : Expr} {rest : List Expr} {pos : Pos} {b : IE} (h : Okay ε Γ X (restB .And y rest pos) b) : PE X (.BoolOp .And (y :: rest) pos) (rdE ε Γ b) ∧ PW X (.BoolOp .And (y :: rest) pos) (rdT ε Γ b) := by
  cases rest with
  | nil => exact ⟨pe_one h.pe, pw_and1 h.pt⟩
  | cons z zs => exact ⟨h.pe, h.pw _ _ _ rfl⟩
theorem rest_or {y : Expr} {rest : List Expr} {pos : Pos} {b : IE} (h : Okay ε Γ X (restB .Or y rest pos) b) : PE X (.BoolOp .Or (y :: rest) pos) (rdE ε Γ b) ∧ PW X (.BoolOp .Or (y :: rest) pos) (rdT ε Γ b) := by
  cases rest with
  | nil => exact ⟨pe_one h.pe, pw_or1 h.pt⟩
  | cons z zs => exact ⟨h.pe, h.pw _ _ _ rfl⟩
theorem s_andd {a b : IE} (h : SndE ε T Γ a) (h2 : SndE ε T Γ b) : SndE ε T Γ (.andd a b) := sndE_of (fun S X e C q => by
  simp only [chkE] at q
  split at q
  · simp only [Bool.and_eq_true] at q
    obtain ⟨r1, r2⟩ := rest_and ((h2 S X _ C).1 q.2)
    exact ⟨sd_and C (h.v C q.1) r1, (sw_and (h.t C q.1) r2).pt, fun _ _ _ _ => sw_and (h.t C q.1) r2⟩
  · cases q) fun _ _ => rfl
theorem s_orr {a b : IE} (h : SndE ε T Γ a) (h2 : SndE ε T Γ b) : SndE ε T Γ (.orr a b) := sndE_of (fun S X e C q => by
  simp only [chkE] at q
  split at q
  · simp only [Bool.and_eq_true] at q
    obtain ⟨r1, r2⟩ := rest_or ((h2 S X _ C).1 q.2)
    exact ⟨sd_or C (h.v C q.1) r1, (sw_or (h.t C q.1) r2).pt, fun _ _ _ _ => sw_or (h.t C q.1) r2⟩
  · cases q) fun _ _ => rfl
theorem s_cond {c a b : IE} (h : SndE ε T Γ c) (h1 : SndE ε T Γ a) (h2 : SndE ε T Γ b) : SndE ε T Γ (.cond c a b) := sndE_of (fun S X e C q => by
  simp only [chkE] at q
  split at q
  · simp only [Bool.and_eq_true] at q
    exact ⟨sd_cond (h.t C q.1.1) (h1.v C q.1.2) (h2.v C q.2), st_cond (h.t C q.1.1) (h1.t C q.1.2) (h2.t C q.2), fun _ _ _ z => nomatch z⟩
  · cases q) fun _ _ => rfl
theorem s_cmp2 {o1 o2 : CmpOp} {a b c : IE} (h : SndE ε T Γ a) (h1 : SndE ε T Γ b) (h2 : SndE ε T Γ c) : SndE ε T Γ (.cmp2 o1 o2 a b c) := sndE_of (fun S X e C q => by
  simp only [chkE] at q
  split at q
  · simp only [Bool.and_eq_true, decide_eq_true_eq] at q
    obtain ⟨⟨⟨⟨⟨rfl, rfl⟩, q3⟩, q4⟩, q5⟩, q6⟩ := q
    exact ⟨sd_chain C q3 (h.o C q4) (h1.o C q5) (h2.o C q6), st_chain C q3 (h.o C q4) (h1.o C q5) (h2.o C q6), fun _ _ _ z => nomatch z⟩
  · cases q) fun _ _ => rfl
theorem s_tup {es : IEs} (h : SndEs ε T Γ es) : SndE ε T Γ (.tup es) := sndE_of (fun S X e C q => by
  simp only [chkE] at q
  split at q
  · exact .of C rfl (sd_tup (h S X _ false C q).pa)
  · cases q) fun _ _ => rfl
theorem chkF_pt {f : FE} {e : Expr} (h : chkF T f S e = true) : ptB e = true := by
  cases f <;> simp only [chkF] at h <;> split at h <;> (first | (cases h; done) | rfl | skip)
  all_goals (first | (rename_i hs; obtain ⟨_, _, rfl⟩ := shapeN_ok hs; rfl) | (rename_i hs; obtain ⟨_, _, rfl, _⟩ := shapeM_ok hs; rfl))
theorem s_frz {f : FE} (h : SndF ε T Γ f) : SndE ε T Γ (.frz f) := sndE_of (fun S X e C q => by
  simp only [chkE] at q
  exact .of C (chkF_pt q) (sd_frz (h S X e C q).1)) fun _ _ => rfl
theorem s_cell {f : FE} (h : SndF ε T Γ f) : SndE ε T Γ (.cell f) := sndE_of (fun S X e C q => by
  simp only [chkE] at q
  exact .of C (chkF_pt q) (sd_cell (h S X e C q).1)) fun _ _ => rfl
theorem s_celld : SndE ε T Γ .celld := sndE_of (fun S X e C q => by
  simp only [chkE] at q
  split at q
  · exact .of C rfl sd_celld
  · cases q) fun _ _ => rfl
theorem s_dcopy {a : IE} (h : SndE ε T Γ a) : SndE ε T Γ (.dcopy a) := sndE_of (fun S X e C q => by
  simp only [chkE] at q
  split at q
  · rename_i hs
    obtain ⟨xp, cpos, rfl⟩ := shapeN_ok hs
    simp only [Bool.and_eq_true] at q
    exact .of C rfl (sd_dcopy C q.1.1.1 (noG_ok q.1.1.2) (h.v C q.2) q.1.2)
  · cases q) fun _ _ => rfl
theorem s_dlen {a : IE} (h : SndE ε T Γ a) : SndE ε T Γ (.dlen a) := sndE_of (fun S X e C q => by
  simp only [chkE] at q
  split at q
  · rename_i hs
    obtain ⟨xp, cpos, rfl⟩ := shapeN_ok hs
    simp only [Bool.and_eq_true] at q
    exact .of C rfl (sd_dlen C q.1.1.1 (noG_ok q.1.1.2) (h.v C q.2) q.1.2)
  · cases q) fun _ _ => rfl
theorem s_call {x : Str} {f : Nat} {es : IEs} (h : SndEs ε T Γ es) : SndE ε T Γ (.call x f es) := sndE_of (fun S X e C q => by
  simp only [chkE] at q
  split at q
  · rename_i l hs
    obtain ⟨xp, cpos, rfl⟩ := shapeN_ok hs
    simp only [Bool.and_eq_true] at q
    have a := h S X l false C q.2
    cases l with
    | nil =>
      have := a.none rfl
      subst this
      exact .of C rfl (sd_call0 C q.1.1.1 q.1.1.2 (fnG_ok q.1.2))
    | cons y ys => exact .of C rfl (sd_call C q.1.1.1 q.1.1.2 (fnG_ok q.1.2) a.pa a.ok)
  · cases q) fun _ _ => rfl
theorem s_callv {i : Nat} {es : IEs} (h : SndEs ε T Γ es) : SndE ε T Γ (.callv i es) := sndE_of (fun S X e C q => by
  simp only [chkE] at q
  split at q
  · simp only [Bool.and_eq_true, decide_eq_true_eq] at q
    have a := h S X _ false C q.2
    exact .of C rfl (sd_callv C q.1.1.1 q.1.1.2 q.1.2 a.pa a.ok)
  · cases q) fun _ _ => rfl
theorem fldC_ok {c : Nat} {f : Str} (h : fldC T c f = true) : ∃ I, T.c[c]? = some I ∧ I.flds.contains f = true := by
  unfold fldC at h
  split at h
  · exact ⟨_, by assumption, h⟩
  · cases h
theorem mthC_ok {c f : Nat} {m : Str} (h : mthC T c m f = true) : ∃ I, T.c[c]? = some I ∧ I.meths.lookup m = some f := by
  unfold mthC at h
  split at h
  · exact ⟨_, by assumption, of_decide_eq_true h⟩
  · cases h
theorem iniC_ok {c f : Nat} (h : iniC T c f = true) : ∃ I, T.c[c]? = some I ∧ I.init = some f := by
  unfold iniC at h
  split at h
  · exact ⟨_, by assumption, of_decide_eq_true h⟩
  · cases h
theorem s_attr {c : Nat} {a : IE} {f : Str} (h : SndE ε T Γ a) : SndE ε T Γ (.attr c a f) := sndE_of (fun S X e C q => by
  simp only [chkE] at q
  split at q
  · simp only [Bool.and_eq_true, decide_eq_true_eq] at q
    obtain ⟨⟨⟨rfl, q1⟩, q2⟩, q3⟩ := q
    obtain ⟨I, i1, i2⟩ := fldC_ok q2
    exact .of C rfl (sd_attr C q1 i1 i2 (h.v C q3))
  · cases q) fun _ _ => rfl
theorem s_mcall {c f : Nat} {m : Str} {a : IE} {es : IEs} (h : SndE ε T Γ a) (hs : SndEs ε T Γ es) : SndE ε T Γ (.mcall c m f a es) := sndE_of (fun S X e C q => by
  simp only [chkE] at q
  split at q
  · rename_i x l hh
    obtain ⟨apos, cpos, rfl, h1, h2⟩ := shapeM_ok hh
    simp only [Bool.and_eq_true, decide_eq_true_eq] at q
    obtain ⟨I, i1, i2⟩ := mthC_ok q.1.1.1
    have b := hs S X l false C q.2
    exact .of C rfl (sd_mcall C h1 i1 i2 (h.v C q.1.2) b.pa b.ok q.1.1.2 h2 b.none)
  · cases q) fun _ _ => rfl
theorem s_make {x : Str} {c f : Nat} {es : IEs} (hs : SndEs ε T Γ es) : SndE ε T Γ (.make x c f es) := sndE_of (fun S X e C q => by
  simp only [chkE] at q
  split at q
  · rename_i l hh
    obtain ⟨xp, cpos, rfl⟩ := shapeN_ok hh
    simp only [Bool.and_eq_true] at q
    obtain ⟨I, i1, i2⟩ := iniC_ok q.1.2
    have b := hs S X l false C q.2
    exact .of C rfl (sd_make C q.1.1.1.1 q.1.1.1.2 (clsG_ok q.1.1.2) i1 i2 b.pa b.ok b.none)
  · cases q) fun _ _ => rfl
theorem s_dhas {neg : Bool} {k d : IE} (h : SndE ε T Γ k) (h2 : SndE ε T Γ d) : SndE ε T Γ (.dhas neg k d) := sndE_of (fun S X e C q => by
  simp only [chkE] at q
  split at q
  · simp only [Bool.and_eq_true, decide_eq_true_eq] at q
    obtain ⟨⟨⟨rfl, q1⟩, q2⟩, q3⟩ := q
    exact ⟨sd_dhas C q1 (h.v C q2) (h2.v C q3), st_dhas C q1 (h.v C q2) (h2.v C q3), fun _ _ _ z => nomatch z⟩
  · cases q) fun _ _ => rfl
theorem s_dget {d k : IE} (h : SndE ε T Γ d) (h2 : SndE ε T Γ k) : SndE ε T Γ (.dget d k) := sndE_of (fun S X e C q => by
  simp only [chkE] at q
  split at q
  · simp only [Bool.and_eq_true] at q
    exact .of C rfl (sd_dget C q.1.1 (h.v C q.1.2) (h2.v C q.2))
  · cases q) fun _ _ => rfl
theorem s_dgetD {d k z : IE} (h : SndE ε T Γ d) (h2 : SndE ε T Γ k) (h3 : SndE ε T Γ z) : SndE ε T Γ (.dgetD d k z) := sndE_of (fun S X e C q => by
  simp only [chkE] at q
  split at q
  · rename_i hh
    obtain ⟨apos, cpos, rfl, h1, hl⟩ := shapeM_ok hh
    simp only [Bool.and_eq_true] at q
    exact .of C rfl (sd_dgetD C h1 q.1.1.1.1 q.1.1.1.2 hl (h.v C q.1.1.2) (h2.v C q.1.2) (h3.v C q.2))
  · cases q) fun _ _ => rfl
theorem s_dsetd {d k z : IE} (h : SndE ε T Γ d) (h2 : SndE ε T Γ k) (h3 : SndE ε T Γ z) : SndE ε T Γ (.dsetd d k z) := sndE_of (fun S X e C q => by
  simp only [chkE] at q
  split at q
  · rename_i hh
    obtain ⟨apos, cpos, rfl, h1, hl⟩ := shapeM_ok hh
    simp only [Bool.and_eq_true] at q
    exact .of C rfl (sd_dsetd C h1 q.1.1.1.1 q.1.1.1.2 hl (h.v C q.1.1.2) (h2.v C q.1.2) (h3.v C q.2))
  · cases q) fun _ _ => rfl
end
end FH
end
section
/-! FH18: the look is right: lists, what is walked, all together. -/
namespace FH
open PySem PySem.Spec PyProof.Rows L2
section
variable {ε : Ev} {T : Tab} {Γ : Env2} {S : SC} {X : Cx}
mutual
theorem sndTg : ∀ {g : Tg} {S : SC} {X : Cx} {e : Expr}, CxOk ε T Γ S X → chkTg g S e = true → PG X e (rdG ε g) ∧ tgE e = true
  | .nm i, S, X, e, C, h => by
    cases e <;> (first | (simp [chkTg] at h; done) | skip)
    simp only [chkTg, Bool.and_eq_true, decide_eq_true_eq] at h
    exact ⟨sg_nm C h.1 h.2, rfl⟩
  | .tp ts, S, X, e, C, h => by
    cases e <;> (first | (simp [chkTg] at h; done) | skip)
    simp only [chkTg, Bool.and_eq_true, decide_eq_true_eq] at h
    exact ⟨sg_tp C h.1.1 h.1.2 (sndTgs C h.2), rfl⟩
theorem sndTgs : ∀ {g : Tgs} {S : SC} {X : Cx} {es : List Expr}, CxOk ε T Γ S X → chkTgs g S es = true → PGs X es (rdGs ε g)
  | .nil, S, X, es, C, h => by
    cases es with
    | nil => exact sgs_nil
    | cons _ _ => simp [chkTgs] at h
  | .cons t ts, S, X, es, C, h => by
    cases es with
    | nil => simp [chkTgs] at h
    | cons e es =>
      simp only [chkTgs, Bool.and_eq_true] at h
      obtain ⟨h1, h2⟩ := sndTg C h.1
      exact sgs_cons h2 h1 (sndTgs C h.2)
end
theorem s_nil : SndEs ε T Γ .nil := fun S X es o C h => by
  cases es with
  | nil => trivial
  | cons _ _ => simp [chkEs] at h
theorem s_cons {i : IE} {is : IEs} (h1 : SndE ε T Γ i) (h2 : SndEs ε T Γ is) : SndEs ε T Γ (.cons i is) := fun S X es o C h => by
  cases es with
  | nil => simp [chkEs] at h
  | cons e es =>
    simp only [chkEs, Bool.and_eq_true] at h
    refine ⟨h.1.1, ?_, h2 S X es o C h.2⟩
    cases o with
    | true => exact h1.o C h.1.2
    | false => exact h1.v C h.1.2
theorem s_no : SndO ε T Γ .no := ⟨fun S X e C h => by
  cases e with
  | none => exact so_no
  | some _ => simp [chkO] at h, fun S X e C h => by
  cases e with
  | nil => exact sc_no
  | cons _ _ => simp [chkC] at h⟩
theorem s_som {i : IE} (h1 : SndE ε T Γ i) : SndO ε T Γ (.som i) := ⟨fun S X e C h => by
  cases e with
  | none => simp [chkO] at h
  | some e => simp only [chkO] at h; exact so_som (h1.v C h), fun S X e C h => by
  cases e with
  | nil => simp [chkC] at h
  | cons e es =>
    cases es with
    | nil => simp only [chkC] at h; exact sc_som (h1.t C h)
    | cons _ _ => simp [chkC] at h⟩
theorem f_disp {es : IEs} (h : SndEs ε T Γ es) : SndF ε T Γ (.disp es) := sndF_of fun S X e C q => by
  simp only [chkF] at q
  split at q
  · exact ⟨rfl, sf_disp (h S X _ false C q).pa⟩
  · cases q
theorem f_list {a : IE} (h : SndE ε T Γ a) : SndF ε T Γ (.list a) := sndF_of fun S X e C q => by
  simp only [chkF] at q
  split at q
  · rename_i hs
    obtain ⟨xp, cpos, rfl⟩ := shapeN_ok hs
    simp only [Bool.and_eq_true] at q
    exact ⟨rfl, sf_list C q.1.1.1 (noG_ok q.1.1.2) (h.o C q.2) q.1.2⟩
  · cases q
theorem f_split {a b : IE} (h : SndE ε T Γ a) (h2 : SndE ε T Γ b) : SndF ε T Γ (.split a b) := sndF_of fun S X e C q => by
  simp only [chkF] at q
  split at q
  · rename_i hs
    obtain ⟨apos, cpos, rfl, g1, g2⟩ := shapeM_ok hs
    simp only [Bool.and_eq_true] at q
    exact ⟨rfl, sf_split g1 q.1.1 g2 (h.v C q.1.2) (h2.v C q.2)⟩
  · cases q
theorem f_cat {a b : IE} (h : SndE ε T Γ a) (h2 : SndE ε T Γ b) : SndF ε T Γ (.cat a b) := sndF_of fun S X e C q => by
  simp only [chkF] at q
  split at q
  · simp only [Bool.and_eq_true] at q
    exact ⟨rfl, sf_cat C (h.o C q.1) (h2.o C q.2)⟩
  · cases q
theorem f_comp {g : Tg} {own : List (Str × Nat)} {s : Src} {c : IO} {i : IE} (hs : SndS ε T Γ s) (hc : SndO ε T Γ c) (hi : SndE ε T Γ i) : SndF ε T Γ (.comp g own s c i) := fun S X e C q => by
  simp only [chkF] at q
  split at q
  · rename_i elt tg iter ifs z scope pos
    simp only [Bool.and_eq_true, decide_eq_true_eq, List.all_eq_true] at q
    obtain ⟨⟨⟨⟨⟨⟨⟨rfl, q1⟩, q2⟩, q3⟩, q4⟩, q5⟩, q6⟩, q7⟩ := q
    have a1 := hs S X tg iter C q1
    have a2 : ∀ Y, CxOk ε T Γ (S.inner scope) Y → PG Y tg (rdG ε g) := fun Y D => (sndTg D q3).1
    have a3 : ∀ Y, CxOk ε T Γ (S.inner scope) Y → PTs Y ifs (rdC ε Γ c) := fun Y D => hc.2 _ Y ifs D q4
    have a4 : ∀ Y, CxOk ε T Γ (S.inner scope) Y → PE Y elt (rdE ε Γ i) := fun Y D => hi.v D q5
    refine ⟨sf_comp C a1 q2 a2 a3 a4 q6 q7, fun j y py spos w => ?_⟩
    simp only [setLcB, Bool.and_eq_true, decide_eq_true_eq, Bool.not_eq_true'] at w
    obtain ⟨⟨⟨⟨w1, w2⟩, w3⟩, w4⟩, w5⟩ := w
    exact psf_comp C w1 w2 w3 w4 w5 a1 q2 a2 a3 a4 q6 q7
  · cases q
theorem k_it {a : IE} (h : SndE ε T Γ a) : SndS ε T Γ (.it a) := fun S X tg e C q => by
  simp only [chkS] at q
  exact ss_it C (h.v C q)
theorem k_cel {a : IE} (h : SndE ε T Γ a) : SndS ε T Γ (.cel a) := fun S X tg e C q => by
  simp only [chkS] at q
  exact ss_cel C (h.v C q)
theorem k_range1 {a : IE} (h : SndE ε T Γ a) : SndS ε T Γ (.range1 a) := fun S X tg e C q => by
  simp only [chkS] at q
  split at q
  · rename_i hs
    obtain ⟨xp, cpos, rfl⟩ := shapeN_ok hs
    simp only [Bool.and_eq_true] at q
    exact ss_range1 C q.1.1.1 (noG_ok q.1.1.2) (h.v C q.2) q.1.2
  · cases q
theorem k_range2 {a b : IE} (h : SndE ε T Γ a) (h2 : SndE ε T Γ b) : SndS ε T Γ (.range2 a b) := fun S X tg e C q => by
  simp only [chkS] at q
  split at q
  · rename_i hs
    obtain ⟨xp, cpos, rfl⟩ := shapeN_ok hs
    simp only [Bool.and_eq_true] at q
    obtain ⟨⟨⟨⟨⟨q1, q2⟩, q3⟩, q4⟩, q5⟩, q6⟩ := q
    exact ss_range2 C q1 (noG_ok q2) (h.v C q5) (h2.v C q6) q3 q4
  · cases q
theorem k_enum {a : IE} (h : SndE ε T Γ a) : SndS ε T Γ (.enum a) := fun S X tg e C q => by
  simp only [chkS] at q
  split at q
  · rename_i hs
    obtain ⟨xp, cpos, rfl⟩ := shapeN_ok hs
    simp only [Bool.and_eq_true] at q
    exact ss_enum C q.1.1.1 (noG_ok q.1.1.2) (h.v C q.2) q.1.2
  · cases q
theorem k_zip {a b : IE} (h : SndE ε T Γ a) (h2 : SndE ε T Γ b) : SndS ε T Γ (.zip a b) := fun S X tg e C q => by
  simp only [chkS] at q
  split at q
  · rename_i hs
    obtain ⟨xp, cpos, rfl⟩ := shapeN_ok hs
    simp only [Bool.and_eq_true] at q
    obtain ⟨⟨⟨⟨⟨q1, q2⟩, q3⟩, q4⟩, q5⟩, q6⟩ := q
    exact ss_zip C q1 (noG_ok q2) (h.v C q5) (h2.v C q6) q3 q4
  · cases q
mutual
theorem sndE : ∀ ie : IE, SndE ε T Γ ie
  | .lit _ => s_lit
  | .var _ => s_var
  | .own _ => s_own
  | .glob _ _ => s_glob
  | .prim _ es => s_prim (sndEs es)
  | .tindex _ a => s_tindex (sndE a)
  | .meth _ a es => s_meth (sndE a) (sndEs es)
  | .gdget _ _ a => s_gdget (sndE a)
  | .slice a lo hi => s_slice (sndE a) (sndO lo) (sndO hi)
  | .nott a => s_nott (sndE a)
  | .andd a b => s_andd (sndE a) (sndE b)
  | .orr a b => s_orr (sndE a) (sndE b)
  | .cond c a b => s_cond (sndE c) (sndE a) (sndE b)
  | .cmp2 _ _ a b c => s_cmp2 (sndE a) (sndE b) (sndE c)
  | .tup es => s_tup (sndEs es)
  | .frz f => s_frz (sndF f)
  | .cell f => s_cell (sndF f)
  | .celld => s_celld
  | .dcopy a => s_dcopy (sndE a)
  | .dlen a => s_dlen (sndE a)
  | .call _ _ es => s_call (sndEs es)
  | .callv _ es => s_callv (sndEs es)
  | .attr _ a _ => s_attr (sndE a)
  | .mcall _ _ _ a es => s_mcall (sndE a) (sndEs es)
  | .make _ _ _ es => s_make (sndEs es)
  | .dhas _ k d => s_dhas (sndE k) (sndE d)
  | .dget d k => s_dget (sndE d) (sndE k)
  | .dgetD d k z => s_dgetD (sndE d) (sndE k) (sndE z)
  | .dsetd d k z => s_dsetd (sndE d) (sndE k) (sndE z)
theorem sndEs : ∀ is : IEs, SndEs ε T Γ is
  | .nil => s_nil
  | .cons i is => s_cons (sndE i) (sndEs is)
theorem sndO : ∀ i : IO, SndO ε T Γ i
  | .no => s_no
  | .som i => s_som (sndE i)
theorem sndF : ∀ f : FE, SndF ε T Γ f
  | .disp es => f_disp (sndEs es)
  | .list a => f_list (sndE a)
  | .split a b => f_split (sndE a) (sndE b)
  | .cat a b => f_cat (sndE a) (sndE b)
  | .comp _ _ s c i => f_comp (sndS s) (sndO c) (sndE i)
theorem sndS : ∀ s : Src, SndS ε T Γ s
  | .it a => k_it (sndE a)
  | .range1 a => k_range1 (sndE a)
  | .range2 a b => k_range2 (sndE a) (sndE b)
  | .enum a => k_enum (sndE a)
  | .zip a b => k_zip (sndE a) (sndE b)
  | .cel a => k_cel (sndE a)
end
end
end FH
end
section
/-! FH19: the look at statements, and that it is right. -/
namespace FH
open PySem PySem.Spec PyProof.Rows L2
def chkIn (T : Tab) (S : SC) : In → Expr → Bool
  | .v e, x => chkE T e false S x
  | .o f, x => chkF T f S x
def newB (T : Tab) (S : SC) (i : Nat) (y : Str) (py : Pos) (v : Expr) : IE → Bool
  | .frz f => chkF T f S v && setLcB S i y py v
  | .cell f => chkF T f S v && setLcB S i y py v
  | _ => false
mutual
def chkSt (T : Tab) (S : SC) : IS → Stmt → Bool
  | .expr e, st => match st with
    | .Expr x _ => notComp x && chkE T e false S x
    | _ => false
  | .ret e, st => match st with
    | .Return (some x) _ => chkE T e false S x
    | _ => false
  | .retN, st => match st with
    | .Return none _ => true
    | _ => false
  | .set i e, st => match st with
    | .Assign [.Name y py] v _ => newB T S i y py v e || (notComp v && decide (S.N[i]? = some y) && locB S y && chkE T e false S v)
    | _ => false
  | .unp g e, st => match st with
    | .Assign [tg] v _ => noSwap tg v && notComp v && chkTg g S tg && chkE T e false S v
    | _ => false
  | .par i j a b, st => match st with
    | .Assign [.Tuple [.Name x px, .Name y py] _ _] (.Tuple [u, v] _ _) _ => decide (S.sc.kind = .function) && decide (S.N[i]? = some x) && decide (S.N[j]? = some y) && decide (i ≠ j) && decide (x ≠ y) && decide (S.sc.names.lookup x = some .local) &&
        decide (S.sc.names.lookup y = some .local) && lineB py px && okE u && okE v && !folds u v && chkIn T S a u && chkIn T S b v
    | _ => false
  | .setOwn i f, st => match st with
    | .Assign [.Name y py] v _ => chkF T f S v && setLcB S i y py v
    | _ => false
  | .setTup i es, st => match st with
    | .Assign [.Name y _] (.Tuple l _ _) _ => decide (S.N[i]? = some y) && locB S y && chkEs T es false S l
    | _ => false
  | .freeze _ s, st => chkSt T S s st
  | .ifs c a b, st => match st with
    | .If x p q _ => chkE T c false S x && chkSs T S a p && chkSs T S b q
    | _ => false
  | .fors g s b, st => match st with
    | .For tg iter body [] _ => chkTg g S tg && chkS T s S tg iter && chkSs T S b body && setB iter
    | _ => false
  | .whil c b, st => match st with
    | .While x body [] _ => chkE T c false S x && chkSs T S b body
    | _ => false
  | .brk, st => match st with
    | .Break _ => true
    | _ => false
  | .cnt, st => match st with
    | .Continue _ => true
    | _ => false
  | .pass, st => match st with
    | .Pass _ => true
    | _ => false
  | .setIx o i e, st => match st with
    | .Assign [.Subscript x y _] v _ => notComp v && okE y && chkE T o false S x && chkE T i false S y && chkE T e false S v
    | _ => false
  | .setKy o i e, st => match st with
    | .Assign [.Subscript x y _] v _ => notComp v && chkE T o false S x && chkE T i false S y && chkE T e false S v
    | _ => false
  | .augIx op o i e, st => match st with
    | .AugAssign (.Subscript x y _) op' v _ => decide (op' = op) && decide (op = .Add) && okE y && chkE T o false S x && chkE T i false S y && chkE T e false S v
    | _ => false
  | .aug op i e, st => match st with
    | .AugAssign (.Name x _) op' v _ => decide (op' = op) && decide (op = .Add) && decide (S.N[i]? = some x) && locB S x && chkE T e false S v
    | _ => false
  | .setAt c o f e, st => match st with
    | .Assign [.Attribute x g _] v _ => decide (g = f) && notComp v && fldC T c f && chkE T o false S x && chkE T e false S v
    | _ => false
  | .setAt2 c i f g a b, st => match st with
    | .Assign [.Tuple [.Attribute (.Name x _) f' _, .Attribute (.Name y _) g' _] _ _] (.Tuple [u, v] _ _) _ => decide (y = x) && decide (f' = f) && decide (g' = g) && decide (S.N[i]? = some x) && visB S.sc x && nameOk x && fldC T c f && fldC T c g && okE u && okE v && chkE T a false S u && chkE T b false S v
    | _ => false
  | .app o e, st => match st with
    | .Expr x _ => (match shapeM "append" x with
      | some (z, [w]) => okE w && chkE T o false S z && chkE T e false S w
      | _ => false)
    | _ => false
  | .appOwn i e, st => match st with
    | .Expr x _ => (match shapeM "append" x with
      | some (z, [w]) => nmB S i z && okE w && chkE T e false S w
      | _ => false)
    | _ => false
  | .extOwn i f, st => match st with
    | .Expr x _ => (match shapeM "extend" x with
      | some (z, [w]) => nmB S i z && okE w && chkF T f S w
      | _ => false)
    | _ => false
def chkSs (T : Tab) (S : SC) : ISs → List Stmt → Bool
  | .nil, [] => true
  | .cons i is, st :: sts => chkSt T S i st && chkSs T S is sts
  | _, _ => false
end
section
variable {ε : Ev} {T : Tab} {Γ : Env2} {S : SC} {X : Cx}
theorem inOk (C : CxOk ε T Γ S X) {i : In} {e : Expr} (h : chkIn T S i e = true) : PE X e (rdIn ε Γ i) := by
  cases i with
  | v a => exact in_v ((sndE a).v C h)
  | o f => exact in_o (sndF f S X e C h).1
theorem newOk (C : CxOk ε T Γ S X) {i : Nat} {y : Str} {py pos : Pos} {v : Expr} {e : IE} (h : newB T S i y py v e = true) : PS X (.Assign [.Name y py] v pos) (rdSt ε Γ (.set i e)) := by
  cases e <;> (first | (simp [newB] at h; done) | skip)
  · rename_i f
    simp only [newB, Bool.and_eq_true] at h
    exact st_setFrz ((sndF f S X v C h.1).2 i y py pos h.2)
  · rename_i f
    simp only [newB, Bool.and_eq_true] at h
    exact st_setCell ((sndF f S X v C h.1).2 i y py pos h.2)
mutual
theorem sndSt (C : CxOk ε T Γ S X) : ∀ (i : IS) (st : Stmt), chkSt T S i st = true → PS X st (rdSt ε Γ i)
  | .expr e, st, h => by
    simp only [chkSt] at h
    split at h
    · simp only [Bool.and_eq_true] at h
      exact st_expr h.1 ((sndE e).v C h.2)
    · cases h
  | .ret e, st, h => by
    simp only [chkSt] at h
    split at h
    · exact st_ret ((sndE e).v C h)
    · cases h
  | .retN, st, h => by
    simp only [chkSt] at h
    split at h
    · exact st_retN
    · cases h
  | .set i e, st, h => by
    simp only [chkSt] at h
    split at h
    · simp only [Bool.or_eq_true] at h
      rcases h with h | h
      · exact newOk C h
      · simp only [Bool.and_eq_true, decide_eq_true_eq] at h
        exact st_set C h.1.1.1 h.1.1.2 h.1.2 ((sndE e).v C h.2)
    · cases h
  | .unp g e, st, h => by
    simp only [chkSt] at h
    split at h
    · simp only [Bool.and_eq_true] at h
      obtain ⟨g1, g2⟩ := sndTg C h.1.2
      exact st_unp (noSwap_ok h.1.1.1) h.1.1.2 g2 g1 ((sndE e).v C h.2)
    · cases h
  | .par i j a b, st, h => by
    simp only [chkSt] at h
    split at h
    · simp only [Bool.and_eq_true, decide_eq_true_eq, Bool.not_eq_true'] at h
      obtain ⟨⟨⟨⟨⟨⟨⟨⟨⟨⟨⟨⟨h1, h2⟩, h3⟩, h4⟩, h5⟩, h6⟩, h7⟩, h8⟩, h9⟩, h10⟩, h11⟩, h12⟩, h13⟩ := h
      exact st_par C h1 h2 h3 h4 h5 h6 h7 h8 h9 h10 h11 (inOk C h12) (inOk C h13)
    · cases h
  | .setOwn i f, st, h => by
    simp only [chkSt] at h
    split at h
    · simp only [Bool.and_eq_true] at h
      exact st_setOwn ((sndF f S X _ C h.1).2 i _ _ _ h.2)
    · cases h
  | .setTup i es, st, h => by
    simp only [chkSt] at h
    split at h
    · simp only [Bool.and_eq_true, decide_eq_true_eq] at h
      exact st_setTup C h.1.1 h.1.2 (sndEs es S X _ false C h.2).pa
    · cases h
  | .freeze i s, st, h => by
    simp only [chkSt] at h
    exact st_freeze (sndSt C s st h)
  | .ifs c a b, st, h => by
    simp only [chkSt] at h
    split at h
    · simp only [Bool.and_eq_true] at h
      exact st_ifs ((sndE c).t C h.1.1) (sndSs C a _ h.1.2) (sndSs C b _ h.2)
    · cases h
  | .fors g s b, st, h => by
    simp only [chkSt] at h
    split at h
    · simp only [Bool.and_eq_true] at h
      exact st_fors C (sndS s S X _ _ C h.1.1.2) (sndTg C h.1.1.1).1 (sndSs C b _ h.1.2) h.2
    · cases h
  | .whil c b, st, h => by
    simp only [chkSt] at h
    split at h
    · simp only [Bool.and_eq_true] at h
      exact st_whil C ((sndE c).t C h.1) (sndSs C b _ h.2)
    · cases h
  | .brk, st, h => by
    simp only [chkSt] at h
    split at h
    · exact st_brk
    · cases h
  | .cnt, st, h => by
    simp only [chkSt] at h
    split at h
    · exact st_cnt
    · cases h
  | .pass, st, h => by
    simp only [chkSt] at h
    split at h
    · exact st_pass
    · cases h
  | .setIx o i e, st, h => by
    simp only [chkSt] at h
    split at h
    · simp only [Bool.and_eq_true] at h
      exact st_setIx h.1.1.1.1 h.1.1.1.2 ((sndE o).v C h.1.1.2) ((sndE i).v C h.1.2) ((sndE e).v C h.2)
    · cases h
  | .setKy o i e, st, h => by
    simp only [chkSt] at h
    split at h
    · simp only [Bool.and_eq_true] at h
      exact st_setKy C h.1.1.1 ((sndE o).v C h.1.1.2) ((sndE i).v C h.1.2) ((sndE e).v C h.2)
    · cases h
  | .augIx op o i e, st, h => by
    simp only [chkSt] at h
    split at h
    · simp only [Bool.and_eq_true, decide_eq_true_eq] at h
      obtain ⟨⟨⟨⟨⟨rfl, h2⟩, h3⟩, h4⟩, h5⟩, h6⟩ := h
      exact st_augIx h3 h2 ((sndE o).v C h4) ((sndE i).v C h5) ((sndE e).v C h6)
    · cases h
  | .aug op i e, st, h => by
    simp only [chkSt] at h
    split at h
    · simp only [Bool.and_eq_true, decide_eq_true_eq] at h
      obtain ⟨⟨⟨⟨rfl, h2⟩, h3⟩, h4⟩, h5⟩ := h
      exact st_aug C h2 h3 h4 ((sndE e).v C h5)
    · cases h
  | .setAt c o f e, st, h => by
    simp only [chkSt] at h
    split at h
    · simp only [Bool.and_eq_true, decide_eq_true_eq] at h
      obtain ⟨⟨⟨⟨rfl, h2⟩, h3⟩, h4⟩, h5⟩ := h
      obtain ⟨I, i1, i2⟩ := fldC_ok h3
      exact st_setAt C h2 i1 i2 ((sndE o).v C h4) ((sndE e).v C h5)
    · cases h
  | .setAt2 c i f g a b, st, h => by
    simp only [chkSt] at h
    split at h
    · simp only [Bool.and_eq_true, decide_eq_true_eq] at h
      obtain ⟨⟨⟨⟨⟨⟨⟨⟨⟨⟨⟨rfl, rfl⟩, rfl⟩, h4⟩, h5⟩, h6⟩, h7⟩, h8⟩, h9⟩, h10⟩, h11⟩, h12⟩ := h
      obtain ⟨I, i1, i2⟩ := fldC_ok h7
      obtain ⟨J, j1, j2⟩ := fldC_ok h8
      rw [i1] at j1; cases j1
      exact st_setAt2 C h4 h5 h6 i1 i2 j2 h9 h10 ((sndE a).v C h11) ((sndE b).v C h12)
    · cases h
  | .app o e, st, h => by
    simp only [chkSt] at h
    split at h
    · split at h
      · rename_i hs
        obtain ⟨apos, cpos, rfl, g1, g2⟩ := shapeM_ok hs
        simp only [Bool.and_eq_true] at h
        exact st_app g1 h.1.1 g2 ((sndE o).v C h.1.2) ((sndE e).v C h.2)
      · cases h
    · cases h
  | .appOwn i e, st, h => by
    simp only [chkSt] at h
    split at h
    · split at h
      · rename_i hs
        obtain ⟨apos, cpos, rfl, g1, g2⟩ := shapeM_ok hs
        simp only [Bool.and_eq_true] at h
        obtain ⟨x, p, rfl, n1, n2, n3⟩ := nmB_ok h.1.1
        exact st_appOwn C n1 n2 n3 h.1.2 g2 ((sndE e).v C h.2)
      · cases h
    · cases h
  | .extOwn i f, st, h => by
    simp only [chkSt] at h
    split at h
    · split at h
      · rename_i hs
        obtain ⟨apos, cpos, rfl, g1, g2⟩ := shapeM_ok hs
        simp only [Bool.and_eq_true] at h
        obtain ⟨x, p, rfl, n1, n2, n3⟩ := nmB_ok h.1.1
        exact st_extOwn C n1 n2 n3 h.1.2 g2 (sndF f S X _ C h.2).1
      · cases h
    · cases h
theorem sndSs (C : CxOk ε T Γ S X) : ∀ (is : ISs) (sts : List Stmt), chkSs T S is sts = true → PSs X sts (rdSs ε Γ is)
  | .nil, sts, h => by
    cases sts with
    | nil => exact ss_nil
    | cons _ _ => simp [chkSs] at h
  | .cons i is, sts, h => by
    cases sts with
    | nil => simp [chkSs] at h
    | cons st sts =>
      simp only [chkSs, Bool.and_eq_true] at h
      exact ss_cons (sndSt C i st h.1) (sndSs C is sts h.2)
end
end
end FH
end
section
/-! FH20: defs, and all defs together. -/
namespace FH
open PySem PySem.Spec PyProof.Rows L2
section
variable {ε : Ev} {P : Program} {w : World} {K : PySem.W.Frag} {mg : Str → Option Value} {base : Heap}
/-- a def by its body, where nothing is being shown -/
theorem fnG_by {x qual : Str} {st : Stmt} {f : Addr} {fd : FuncData} {N ps : List Str} {k : Nat} {sp : Sp} (F : Fun K x qual st f fd) (S : FnScope N ps (defScope st)) (hlen : ∀ vs H Q E, sp vs H Q E → vs.length = ps.length)
    (go : ∀ (cdv : Value) (A : Around) (outer : List Env) (s : Shared) (H : Hp) (vs : List V) (Q : VK), Room k (A.deeper (envOfC qual (defScope st) s.heap.objs.size f cdv)) → A.guards = some [] → sp vs H Q E0 →
      ∃ t : TS, PSs (cxOf CX0 P w K mg base N qual (defScope st) f cdv A outer s H E0).nox (defBody st) t ∧ t ⟨fun _ H' => Q .non H', Q, fun _ _ => False, fun _ _ => False⟩ (L2.start N vs) H) : FnG P w K mg base (k + 1) f fd ps sp := by
  obtain ⟨oc, od, kV, doc, pm, an, cdv, ct, osl, rfl, look, code⟩ := F.ex
  refine ⟨hlen, fun A outer s H args us vs Q room gd env bind rel hsp => ?_⟩
  have inK : K.In s.heap := env.mod.kin.keeps fun b o e => (env.bs b o e).1
  have free : s.heap.NoLimit := env.mod.nolimit.keeps fun b o e => (env.bs b o e).1
  have kinds : ∀ y ∈ ps.zip us, (defScope st).names.lookup y.1 = some .local ∨ ((defScope st).names.lookup y.1 = some .cell ∧ ((cellsFrom (s.heap.objs.size + 1) (defScope st).names []).lookup y.1).isSome = true) := by
    rintro ⟨n, v⟩ hy
    refine (S.par n (List.of_mem_zip hy).1).elim .inl fun q => .inr ⟨q, ?_⟩
    exact PySem.W.cellsFrom_some _ _ _ (.inl q)
  refine codeAny_call_function room.depth (inK _ _ look) rfl S.co S.gen rfl (PySem.W.codeRec_of inK code) (bind _ _ _ _ (wpAny_newFunctionEnv_cells S.kind kinds fun e he s1 x => ?_))
  subst he
  refine ⟨free.keeps x.toInCall.keep, codeAny_func ?_⟩
  obtain ⟨t, body, read⟩ := go cdv A outer s H vs Q (room.deeper _) gd hsp
  have start1 := inv_start (CX := CX0) (P := P) (w := w) (E := E0) (f := f) (cd := cdv) S room.hd env (hlen _ _ _ _ hsp) rel x
  refine wpAny_mono (body.nox.run [] s1 (L2.start N vs) H _ start1 read) (fun fl s2 hs => ?_) fun e s2 hs => hs
  cases fl with
  | ret u => obtain ⟨v, σ2, H2, J, r, q⟩ := hs; exact ⟨v, H2, J.os, J.bare, J.base, J.hok, r, q⟩
  | next => obtain ⟨σ2, H2, J, q⟩ := hs; exact ⟨.non, H2, J.os, J.bare, J.base, J.hok, rfl, q⟩
  | brk => obtain ⟨_, _, _, q⟩ := hs; exact q.elim
  | cont => obtain ⟨_, _, _, q⟩ := hs; exact q.elim
/-- a def of the program: its text and its term -/
structure FDef where
  at_ : Str × Option Str
  name : Str
  qual : Str
  st : Stmt
  ps : List Str
  N : List Str
  fn : FH.Fn
def scopeB (N ps : List Str) (sc : Scope) : Bool :=
  (match sc.kind with | .function => true | _ => false) && (!sc.isCoroutine && (!sc.isGenerator && (decide N.Nodup && (decide (N.take ps.length = ps) && (ps.all (fun x => match sc.names.lookup x with | some .local => true | some .cell => true | _ => false) &&
    sc.names.all fun y => match y.2 with | .free => false | _ => true)))))
theorem scopeB_ok {N ps : List Str} {sc : Scope} (h : scopeB N ps sc = true) : FnScope N ps sc := by
  simp only [scopeB, Bool.and_eq_true, Bool.not_eq_true', decide_eq_true_eq, List.all_eq_true] at h
  obtain ⟨h1, h2, h3, h4, h5, h6, h7⟩ := h
  refine ⟨?_, h2, h3, h4, h5, fun x hx => ?_, fun y hy e => ?_⟩
  · split at h1
    · assumption
    · cases h1
  · have q := h6 x hx
    split at q
    · exact .inl (by assumption)
    · exact .inr (by assumption)
    · cases q
  · have q := h7 y hy
    rw [e] at q; cases q
def FDef.ok (T : Tab) (F : FDef) : Bool :=
  scopeB F.N F.ps (defScope F.st) && decide (F.fn.np = F.ps.length) && decide (F.fn.size = F.N.length) && chkSs T ⟨F.N, defScope F.st, none⟩ F.fn.body (defBody F.st)
/-- what is known of the program behind its top -/
structure Mdl (ε : Ev) (T : Tab) (fs : List FDef) (w : World) (K : PySem.W.Frag) (mg : Str → Option Value) : Prop where
  k : ε.K = K
  gl : ∀ X : Cx, X.K = K → X.w = w → X.mg = mg → ∀ x, GOk ε X x (T.look x)
  cls : ∀ X : Cx, X.K = K → ∀ (c : Nat) (I : CI), T.c[c]? = some I → ClOk ε X c I
  fn : ∀ (i : Nat) (F : FDef), fs[i]? = some F → ∃ fd, Fun K F.name F.qual F.st (ε.fa i) fd ∧ Binds K fd F.ps []
  ok : ∀ (i : Nat) (F : FDef), fs[i]? = some F → F.ok T = true
theorem own_none : ∀ (ds : List D) (n : Nat) (σ : L2.St), ownA (ds.map Slot.val ++ List.replicate n .emp) σ = []
  | [], 0, σ => by cases σ <;> rfl
  | [], n + 1, [] => rfl
  | [], n + 1, o :: σ => by
    have ih := own_none [] n σ
    simpa [List.replicate_succ, ownA] using ih
  | d :: ds, n, [] => by simp [ownA]
  | d :: ds, n, o :: σ => by
    have ih := own_none ds n σ
    simpa [ownA] using ih
theorem slots0 {φ : List Addr} {H : Hp} : ∀ {ds : List D} {vs : List V} (n : Nat), EncL ε φ H vs ds → Paired (SlotOk ε φ H) (ds.map Slot.val ++ List.replicate n .emp) (vs.map some ++ List.replicate n none)
  | [], _, 0, h => by cases h; exact .nil
  | [], _, n + 1, h => by
    have h0 := h
    cases h
    exact .cons trivial (slots0 n h0)
  | d :: ds, _, n, h => by
    cases h with
    | cons q r => exact .cons ⟨_, rfl, q⟩ (slots0 n r)
def fnsOf (fs : List FDef) : List FH.Fn := fs.map (·.fn)
/-- one def, if those that it calls keep theirs -/
theorem def_ok {T : Tab} {fs : List FDef} (M : Mdl ε T fs w K mg) {k : Nat} {Γ : Env2} (hf : ∀ X : Cx, X.prog = P → X.w = w → X.K = K → X.mg = mg → X.base = base → ∀ f, FOk ε X k Γ.fns f)
    (hi : (∃ j, k = j + 1 ∧ ∀ X : Cx, X.prog = P → X.w = w → X.K = K → X.mg = mg → X.base = base → ∀ f, FOk ε X j Γ.inits f) ∨ ∀ f ds μ, Γ.inits f ds μ = none) (f : Nat) (some_ : ∃ ds μ r, callF (fnsOf fs) Γ f ds μ = some r) :
    ∃ fd ps, FnG P w K mg base (k + 1) (ε.fa f) fd ps (spOf ε (callF (fnsOf fs) Γ f)) ∧ Binds K fd ps [] ∧ PySem.W.keepIn K (.ref (ε.fa f)) = true := by
  obtain ⟨F, hF⟩ : ∃ F, fs[f]? = some F := by
    obtain ⟨ds, μ, r, e⟩ := some_
    unfold callF at e
    split at e
    · rename_i G hG
      simp only [fnsOf, List.getElem?_map, Option.map_eq_some_iff] at hG
      obtain ⟨F, hF, _⟩ := hG
      exact ⟨F, hF⟩
    · cases e
  have hG : (fnsOf fs)[f]? = some F.fn := by simp [fnsOf, hF]
  obtain ⟨fd, U, B⟩ := M.fn f F hF
  have ok := M.ok f F hF
  simp only [FDef.ok, Bool.and_eq_true, decide_eq_true_eq] at ok
  obtain ⟨⟨⟨k1, k2⟩, k3⟩, k4⟩ := ok
  have SC0 := scopeB_ok k1
  refine ⟨fd, F.ps, fnG_by U SC0 (fun vs H Q E h => ?_) (fun cdv A outer s H vs Q room gd h => ?_), B, U.kp⟩
  · obtain ⟨φ, ds, μ, r, μ', h1, h2, h3, h4⟩ := h
    unfold callF at h3
    rw [hG] at h3
    simp only at h3
    split at h3
    · rename_i hl; rw [h1.length, hl, k2]
    · cases h3
  · obtain ⟨φ, ds, μ, r, μ', h1, h2, h3, h4⟩ := h
    unfold callF at h3
    rw [hG] at h3
    simp only at h3
    split at h3
    · rename_i hl
      have C : CxOk ε T Γ ⟨F.N, defScope F.st, none⟩ (cxOf CX0 P w K mg base F.N F.qual (defScope F.st) (ε.fa f) cdv A outer s H E0).nox := {
        K := M.k
        N := rfl
        nd := SC0.nd
        sc := rfl
        calm := rfl
        xe := rfl
        gd := gd
        hu := by
          have h := room.un
          show (A.deeper (envOfC F.qual (defScope F.st) s.heap.objs.size (ε.fa f) cdv)).units + 200 < cLine
          omega
        fn := fun _ => rfl
        gl := M.gl _ rfl rfl rfl
        fns := ⟨k, room, hf _ rfl rfl rfl rfl rfl⟩
        inits := by
          rcases hi with ⟨j, rfl, hi⟩ | hi
          · exact ⟨j, .inl ⟨room, hi _ rfl rfl rfl rfl rfl⟩⟩
          · exact ⟨0, .inr hi⟩
        cls := M.cls _ rfl }
      refine ⟨_, sndSs C F.fn.body _ k4, ?_⟩
      have hn : F.fn.size - ds.length = F.N.length - vs.length := by rw [k3, h1.length]
      have own0 : ∀ σ, ownA (start0 F.fn ds) σ = [] := fun σ => own_none ds _ σ
      have R : Rel ε φ (start0 F.fn ds) μ (L2.start F.N vs) H := ⟨h2, by unfold start0 L2.start; rw [hn]; exact slots0 _ h1, by rw [own0]; exact List.nodup_nil, fun a ha => by rw [own0] at ha; simp at ha⟩
      have fin : ∀ {φ2 : List Addr} {ρ2 : Slots} {μ2 : Store} {σ2 : L2.St} {H2 : Hp}, StP ε φ (start0 F.fn ds) (L2.start F.N vs) H φ2 ρ2 μ2 σ2 H2 → Res ε φ H φ2 μ2 H2 := fun x => ⟨⟨x.more, x.grow, fun b o e nb => x.keep b o e nb (by rw [own0]; simp), x.there⟩, x.rel.sto⟩
      split at h3
      · rename_i d ρ2 μ2 he
        cases h3
        exact ⟨φ, _, μ, _, _, _, R, he, fun φ2 σ2 H2 x v y => h4 φ2 v H2 (fin x) y⟩
      · rename_i ρ2 μ2 he
        cases h3
        exact ⟨φ, _, μ, _, _, _, R, he, fun φ2 σ2 H2 x => h4 φ2 .non H2 (fin x) .non⟩
      · cases h3
    · cases h3
/-- all defs, to any depth -/
theorem all_ok {T : Tab} {fs : List FDef} (M : Mdl ε T fs w K mg) : ∀ k : Nat,
    (∀ X : Cx, X.prog = P → X.w = w → X.K = K → X.mg = mg → X.base = base → ∀ f, FOk ε X k (runP (fnsOf fs) k).1 f) ∧
    ((∃ j, k = j + 1 ∧ ∀ X : Cx, X.prog = P → X.w = w → X.K = K → X.mg = mg → X.base = base → ∀ f, FOk ε X j (runP (fnsOf fs) k).2 f) ∨ ∀ f ds μ, (runP (fnsOf fs) k).2 f ds μ = none)
  | 0 => ⟨fun X _ _ _ _ _ f ⟨ds, μ, r, e⟩ => (nomatch e), .inr fun _ _ _ => rfl⟩
  | k + 1 => by
    obtain ⟨h1, h2⟩ := all_ok M k
    refine ⟨fun X e1 e2 e3 e4 e5 f hs => ?_, .inl ⟨k, rfl, h1⟩⟩
    subst e1; subst e2; subst e3; subst e4; subst e5
    exact def_ok M (Γ := ⟨(runP (fnsOf fs) k).1, (runP (fnsOf fs) k).2⟩) h1 h2 f hs
end
end FH
end
section
/-! FH21: the law's own call. -/
namespace FH
open PySem PySem.Spec PyProof.Rows L2
section
variable {P : Program} {w : World} {K : PySem.W.Frag} {mg mb : Str → Option Value}
theorem enc_ints {ε : Ev} {φ : List Addr} {H : Hp} : ∀ ns : List Int, EncL ε φ H (ns.map V.int) (ns.map D.int)
  | [] => .nil
  | n :: ns => .cons (.int n) (enc_ints ns)
/-- what the caller wants of the law -/
def LawEnd (s : Shared) (r : Result) (s' : Shared) : Prop := r = .ok (.ret (.bool true)) ∧ OldK s.heap s'.heap ∧ s'.os = s.os ∧ AllBare s'.gens
/-- from an abstract heap that holds the script at most -/
theorem law_from {k : Nat} {fa a : Addr} {sp : Sp} {s : Shared} {vs : List Value} (inK : K.In s.heap) (names : s.heap.Ns mainGlobals mg) (builtins : s.heap.Ns builtinsNs mb) (bltOk : ∀ x : Str, x ≠ "__name__" → mb x = bootBuiltins x) (free : s.heap.NoLimit) (gens : s.gens = #[])
    (at_ : s.heap.get? a = some { cls := .type "list", data := .seq vs.toArray }) (room : Room k callerA) (F : ∀ base : Heap, ∃ fd ps, FnG P w K mg base k fa fd ps sp ∧ Binds K fd ps [])
    (H : Hp) (held : HOk P w H s.heap) (dom : ∀ b u, H b = some u → b = a ∧ K.lookup a = none ∧ ∃ o xs, u = .frz o (.lst xs)) (hsp : sp [.ref a] H (fun v _ => v = .bl true) E0) :
    codeAny (model P w) callerA (.call (.ref fa) ⟨[.ref a], []⟩) (LawEnd s) s := by
  have none_of : ∀ b, (b = a → K.lookup a ≠ none) → H b = none := fun b hb => by
    cases e : H b with
    | none => rfl
    | some u => obtain ⟨h1, h2, _⟩ := dom b u e; exact absurd h2 (hb h1)
  have base1 : K.In (hidT s.heap H) := fun b o e => hidT_get (inK b o e) (none_of b fun z h => by rw [← z, e] at h; cases h)
  have ns1 : ∀ {b : Addr} {m : Str → Option Value}, s.heap.Ns b m → (hidT s.heap H).Ns b m := by
    rintro b m ⟨o, es, ep, e, d, r⟩
    refine ⟨o, es, ep, hidT_get e ?_, d, r⟩
    cases q : H b with
    | none => rfl
    | some u =>
      obtain ⟨rfl, _⟩ := dom b u q
      rw [at_] at e; cases e
      exact absurd (show Data.seq vs.toArray _ = Data.dict es ep from d) (fun z => nomatch z)
  obtain ⟨mc, c1, c2⟩ := free
  have mod : Mod K mg (hidT s.heap H) := ⟨base1, ns1 names, ⟨mb, ns1 builtins, bltOk⟩, mc, ns1 c1, c2⟩
  have env : Env0 P w K mg (hidT s.heap H) callerA [] s H := {
    frames := rfl
    mod := mod
    bs := fun b o e => of_hidT e
    bsz := Nat.le_of_eq (hidT_size _ _)
    funs := trivial
    frf := fun b hb => nomatch (show b ∈ ([] : List Addr) from hb)
    hok := held
    bare := .of_eq gens }
  obtain ⟨fd, ps, prom, bnd⟩ := F (hidT s.heap H)
  have bind := bnd s [.ref a] inK (prom.len _ _ _ _ hsp)
  refine codeAny_mono (prom.run callerA [] s H ⟨[.ref a], []⟩ [.ref a] [.ref a] _ room rfl env bind (.cons rfl .nil) hsp) fun r s2 h => ?_
  cases r with
  | error e => exact False.elim h
  | ok fl =>
    cases fl with
    | ret u =>
      obtain ⟨v, H2, os, bare, un, held2, rel, rfl⟩ := h
      obtain rfl : u = Value.bool true := rel
      refine ⟨rfl, OldK.of_keep fun b o e => ?_, os, bare⟩
      cases q : H b with
      | none => exact un.keep b o e q (fun z => nomatch (show b ∈ ([] : List Addr) from z)) (by simp)
      | some u =>
        obtain ⟨_, _, ob, xs, rfl⟩ := dom b u q
        have q2 := un.frzs b ob _ q
        have g1 := (held b _ q).1
        have g2 := (held2 b _ q2).1
        rw [e] at g1; cases g1
        exact g2
    | next => exact False.elim h
    | brk => exact False.elim h
    | cont => exact False.elim h
theorem law_run {ε : Ev} {T : Tab} {fs : List FDef} {k i : Nat} {a : Addr} {s : Shared} {vs : List Value} {ns : List Int} {μ' : Store} (M : Mdl ε T fs w K mg)
    (inK : K.In s.heap) (names : s.heap.Ns mainGlobals mg) (builtins : s.heap.Ns builtinsNs mb) (bltOk : ∀ x : Str, x ≠ "__name__" → mb x = bootBuiltins x) (free : s.heap.NoLimit) (gens : s.gens = #[])
    (at_ : s.heap.get? a = some { cls := .type "list", data := .seq vs.toArray }) (hi : IntsAre vs ns) (hl : ns.length ≤ sizeLine) (room : Room k callerA) (hrun : run (fnsOf fs) k i [.lst (ns.map .int)] [] = some (.bl true, μ')) :
    codeAny (model P w) callerA (.call (.ref (ε.fa i)) ⟨[.ref a], []⟩) (LawEnd s) s := by
  have rel := vals_ints hi
  have prom : ∀ base : Heap, ∃ fd ps, FnG P w K mg base k (ε.fa i) fd ps (spOf ε (run (fnsOf fs) k i)) ∧ Binds K fd ps [] := fun base => by
    obtain ⟨fd, ps, h1, h2, _⟩ := (all_ok (P := P) (base := base) M k).1 (cxOf CX0 P w K mg base [] "" ⟨.function, [], false, false, []⟩ 0 .none callerA [] s (fun _ => none) E0) rfl rfl rfl rfl rfl i ⟨_, _, _, hrun⟩
    exact ⟨fd, ps, h1, h2⟩
  have ready : ∀ H : Hp, FzL K H a (ns.map V.int) → spOf ε (run (fnsOf fs) k i) [.ref a] H (fun v _ => v = .bl true) E0 := fun H hz =>
    ⟨[], [.lst (ns.map .int)], [], .bl true, μ', .cons (.lst (by rw [M.k]; exact hz) (enc_ints ns)) .nil, ⟨rfl, List.nodup_nil, fun n b c e => by simp at e⟩, hrun, fun φ' v H' _ y => by cases y; rfl⟩
  cases hk : K.lookup a with
  | some o =>
    have e := inK a o hk
    rw [at_] at e
    cases e
    exact law_from inK names builtins bltOk free gens at_ room prom (fun _ => none) (fun b u z => nomatch (show (none : Option HO) = some u from z)) (fun b u z => nomatch (show (none : Option HO) = some u from z)) (ready _ (.inr ⟨vs, _, hk, by rw [List.length_map]; exact hl, rel⟩))
  | none =>
    refine law_from inK names builtins bltOk free gens at_ room prom (L2.upd (fun _ => none) a (.frz { cls := .type "list", data := .seq vs.toArray } (.lst (ns.map V.int)))) (fun b u z => ?_) (fun b u z => ?_) (ready _ (.inl ⟨_, upd_same⟩))
    · by_cases hb : b = a
      · subst hb
        rw [upd_same] at z; cases z
        exact ⟨at_, by rw [List.length_map]; exact hl, vs, _, rel, at_⟩
      · rw [upd_ne hb] at z; cases z
    · by_cases hb : b = a
      · subst hb
        rw [upd_same] at z; cases z
        exact ⟨rfl, hk, _, _, rfl⟩
      · rw [upd_ne hb] at z; cases z
/-- THE END: the law's walk, from its plain meaning -/
theorem walk_fh {l : PySem.W.OpenLaw} {n : Nat} {q : Program} {loose : List Str} {XP : (Str → Option Value) → Heap → Prop} {YP : World → Heap → Prop} {d : DefRec} (hn : l.most = some n) (hn2 : n ≤ sizeLine) (hdf : d.params.defaults = [])
    {T : Tab} {fs : List FDef} {k i : Nat} (room : Room k callerA)
    (F : ∀ (w : World) (mg : Str → Option Value) (fa : Addr) (h : Heap), YP w h → h.Ns mainGlobals mg → mg d.name = some (.ref fa) → ∃ (K : PySem.W.Frag) (ε : Ev), K.In h ∧ Mdl ε T fs w K mg ∧ ε.fa i = fa)
    (law : ∀ ns : List Int, ns.length ≤ n → ∃ μ, run (fnsOf fs) k i [.lst (ns.map .int)] [] = some (.bl true, μ)) :
    PySem.W.WalkO q loose XP YP l.row.toRowW d [] (fun f vs => PySem.call f vs) := by
  refine Att.attach_call hn hdf fun w s₀ s₁ mg mb fa o pm cd doc a vs ns G Y ho hd hcd name obj its len gens => ?_
  obtain ⟨K, ε, inK, M, rfl⟩ := F w mg fa _ Y G.T.g name
  obtain ⟨μ, hrun⟩ := law ns len
  exact law_run M inK G.T.g G.T.b G.T.builtins G.T.nolimit gens obj its (Nat.le_trans len hn2) room hrun
end
end FH
end
section
/-! FH22: what the top has left, by names. -/
namespace FH
open PySem PySem.Spec PyProof.Rows L2
/-- a program: its names, its defs, its classes -/
structure Prg where
  T : Tab
  fs : List FDef
  cs : List Str
def gFa (x : Str) : G → List He.Fa
  | .no => [.free x]
  | .fn _ => [.glo x]
  | .cls _ => [.glo x]
  | .dct _ => [.glo x]
  | _ => []
def cFa (x : Str) (I : CI) : List He.Fa := .cls x :: ((match I.init with | some _ => [.mkr x] | none => []) ++ (I.flds.map (.noat x) ++ I.meths.map fun m => .meth x m.1))
def Prg.fa (P : Prg) : List He.Fa := (P.T.g.flatMap fun p => gFa p.1 p.2) ++ (P.cs.zip P.T.c).flatMap fun q => cFa q.1 q.2
def FDef.d (F : FDef) : He.DefD := ⟨F.at_, F.name, F.qual, defArgs F.st, defBody F.st, defScope F.st, [], []⟩
def Prg.fn (P : Prg) : List He.DefD := P.fs.map FDef.d
def Prg.ts (P : Prg) : List He.Tab := P.T.g.filterMap fun p => match p.2 with
  | .dct kvs => some (fun K => He.ga K p.1, kvs.map (·.1))
  | _ => none

mutual
def encB (K : PySem.W.Frag) : D → Value → Bool
  | .non, .none => true
  | .bl b, .bool c => b == c
  | .int i, .int j _ => decide (i = j)
  | .str x, .str y _ => decide (x = y)
  | .tup ds, .ref a => (match K.lookup a with
    | some ⟨.type c, _, .seq its _, _⟩ => decide (c = "tuple") && (decide (its.size ≤ sizeLine) && encBs K ds its.toList)
    | _ => false)
  | .lst ds, .ref a => (match K.lookup a with
    | some ⟨.type c, none, .seq its _, sl⟩ => decide (c = "list") && (sl.isEmpty && (decide (its.size ≤ sizeLine) && encBs K ds its.toList))
    | _ => false)
  | _, _ => false
def encBs (K : PySem.W.Frag) : List D → List Value → Bool
  | [], [] => true
  | d :: ds, u :: us => encB K d u && encBs K ds us
  | _, _ => false
end
def conB (K : PySem.W.Frag) (x : Str) (d : D) : Bool := match PySem.W.nsIn K mainGlobals x with
  | some (some u) => encB K d u
  | _ => false
def dctB (K : PySem.W.Frag) (x : Str) (kvs : List (Str × D)) : Bool := kvs.all fun q => match PySem.W.nsIn K (He.ga K x) q.1 with
  | some (some u) => encB K q.2 u
  | _ => false
def Prg.ex (P : Prg) (K : PySem.W.Frag) : Bool := P.T.g.all fun p => match p.2 with
  | .con d => conB K p.1 d
  | .dct kvs => dctB K p.1 kvs
  | _ => true
/-- where things stand, told by the tables alone -/
def Prg.atB (P : Prg) : Bool := (P.T.g.all fun p => match p.2 with
    | .fn f => decide ((P.fs[f]?).map (·.at_) = some (p.1, none))
    | .cls c => decide (P.cs[c]? = some p.1)
    | _ => true) && ((P.cs.zip P.T.c).all fun q => (match q.2.init with
    | some f => decide ((P.fs[f]?).map (·.at_) = some (q.1, some ("__init__" : Str)))
    | none => true) && q.2.meths.all fun m => decide ((P.fs[m.2]?).map (·.at_) = some (q.1, some m.1))) && decide (P.cs.length = P.T.c.length)
def Prg.okB (P : Prg) : Bool := P.fs.all (·.ok P.T)
/-- how a def's parameters bind -/
def FDef.BindsF (F : FDef) : Prop := ∀ (kV doc pm : Value) (an : Option Addr) (cdv ct : Value) (us : List Value), us.length = F.ps.length →
  bindArgs (PySem.W.fnOf F.name F.qual (defArgs F.st) (defBody F.st) (defScope F.st) .none kV doc pm an cdv ct) ⟨us, []⟩ = pure (F.ps.zip us)
def AllB : List FDef → Prop
  | [] => True
  | F :: r => F.BindsF ∧ AllB r
theorem AllB.at : ∀ {fs : List FDef} {i : Nat} {F : FDef}, AllB fs → fs[i]? = some F → F.BindsF
  | _ :: _, 0, F, h, e => by simp at e; subst e; exact h.1
  | _ :: _, i + 1, F, h, e => AllB.at h.2 (by simpa using e)
  | [], _, _, _, e => by simp at e
def Prg.ev (P : Prg) (K : PySem.W.Frag) : Ev where
  K := K
  fa := fun i => match P.fs[i]? with | some F => He.fAd K F.at_ | none => 0
  ca := fun c => match P.cs[c]? with | some x => He.ga K x | none => 0
section
variable {K : PySem.W.Frag}
mutual
theorem encB_ok : ∀ {d : D} {u : Value}, encB K d u = true → ∃ v, RelV v u ∧ ∀ (ε : Ev) (φ : List Addr) (H : Hp), ε.K = K → Enc ε φ H v d
  | .non, u, h => by cases u <;> (first | (simp [encB] at h; done) | exact ⟨.non, rfl, fun _ _ _ _ => .non⟩)
  | .bl b, u, h => by
    cases u <;> (first | (simp [encB] at h; done) | skip)
    have e := beq_iff_eq.mp (show (b == _) = true by simpa only [encB] using h)
    subst e
    exact ⟨.bl b, rfl, fun _ _ _ _ => .bl b⟩
  | .int b, u, h => by
    cases u <;> (first | (simp [encB] at h; done) | skip)
    simp only [encB, decide_eq_true_eq] at h
    subst h
    exact ⟨.int b, ⟨_, rfl⟩, fun _ _ _ _ => .int b⟩
  | .str b, u, h => by
    cases u <;> (first | (simp [encB] at h; done) | skip)
    simp only [encB, decide_eq_true_eq] at h
    subst h
    exact ⟨.str b, ⟨_, rfl⟩, fun _ _ _ _ => .str b⟩
  | .tup ds, u, h => by
    cases u <;> (first | (simp [encB] at h; done) | skip)
    rename_i a
    simp only [encB] at h
    split at h
    · rename_i c od its n sl e
      simp only [Bool.and_eq_true, decide_eq_true_eq] at h
      obtain ⟨rfl, h2, h3⟩ := h
      obtain ⟨vs, r, q⟩ := encBs_ok h3
      exact ⟨.ref a, rfl, fun ε φ H hk => .tup (.inr ⟨_, its, n, by rw [hk]; exact e, rfl, rfl, h2, r⟩) (q ε φ H hk)⟩
    · cases h
  | .lst ds, u, h => by
    cases u <;> (first | (simp [encB] at h; done) | skip)
    rename_i a
    simp only [encB] at h
    split at h
    · rename_i c its n sl e
      simp only [Bool.and_eq_true, decide_eq_true_eq] at h
      obtain ⟨rfl, h1, h2, h3⟩ := h
      obtain ⟨vs, r, q⟩ := encBs_ok h3
      have e2 := Array.isEmpty_iff.mp h1
      subst e2
      have hl := r.length
      refine ⟨.ref a, rfl, fun ε φ H hk => .lst (.inr ⟨its.toList, n, by rw [hk]; simpa using e, ?_, r⟩) (q ε φ H hk)⟩
      rw [hl, Array.length_toList]; exact h2
    · cases h
  | .ref _, u, h => by cases u <;> simp [encB] at h
  | .fn _, u, h => by cases u <;> simp [encB] at h
  | .ty _, u, h => by cases u <;> simp [encB] at h
theorem encBs_ok : ∀ {ds : List D} {us : List Value}, encBs K ds us = true → ∃ vs, Vals vs us ∧ ∀ (ε : Ev) (φ : List Addr) (H : Hp), ε.K = K → EncL ε φ H vs ds
  | [], [], _ => ⟨[], .nil, fun _ _ _ _ => .nil⟩
  | [], _ :: _, h => by simp [encBs] at h
  | _ :: _, [], h => by simp [encBs] at h
  | d :: ds, u :: us, h => by
    simp only [encBs, Bool.and_eq_true] at h
    obtain ⟨v, r, q⟩ := encB_ok h.1
    obtain ⟨vs, r2, q2⟩ := encBs_ok h.2
    exact ⟨v :: vs, .cons r r2, fun ε φ H hk => .cons (q ε φ H hk) (q2 ε φ H hk)⟩
end
theorem lookup_in {β : Type} {x : Str} {g : β} : ∀ {l : List (Str × β)}, l.lookup x = some g → (x, g) ∈ l
  | [], h => by cases h
  | (y, b) :: l, h => by
    rw [List.lookup_cons] at h
    split at h
    · rename_i e; cases h; rw [beq_iff_eq.mp e]; exact List.mem_cons_self
    · exact List.mem_cons_of_mem _ (lookup_in h)
theorem fun_of {F : FDef} {f : Addr} {fd : FuncData} (U : FunD K F.name F.qual (defArgs F.st) (defBody F.st) (defScope F.st) [] [] f fd) (B : F.BindsF) : Fun K F.name F.qual F.st f fd ∧ Binds K fd F.ps [] := by
  refine ⟨⟨?_, U.kp⟩, U.bindsN B⟩
  obtain ⟨oc, od, dV, kV, doc, pm, an, cdv, ct, osl, e, lk, hcd, hD, _⟩ := U.ex
  rcases hD with ⟨_, rfl⟩ | ⟨z, _⟩
  · exact ⟨oc, od, kV, doc, pm, an, cdv, ct, osl, e, lk, hcd⟩
  · exact absurd rfl z
theorem mdl_of {P : Prg} {w : World} {h : Heap} {mg : Str → Option Value} (a1 : P.atB = true) (a2 : P.okB = true) (bnd : AllB P.fs) (inK : K.In h) (ns : h.Ns mainGlobals mg) (c : He.SaysX P.fa P.fn P.ts [] P.ex w h K) : Mdl (P.ev K) P.T P.fs w K mg := by
  simp only [Prg.atB, Bool.and_eq_true, List.all_eq_true, decide_eq_true_eq] at a1
  obtain ⟨⟨at1, at2⟩, at3⟩ := a1
  have ex := List.all_eq_true.mp c.more
  have fact : ∀ f ∈ P.fa, f.ok K = true := fun f hf => c.t.d.facts hf
  have fg : ∀ x g f, (x, g) ∈ P.T.g → f ∈ gFa x g → f.ok K = true := fun x g f h1 h2 => fact f (List.mem_append_left _ (List.mem_flatMap.mpr ⟨(x, g), h1, h2⟩))
  refine ⟨rfl, fun X hK hw hm x => ?_, fun X hK cn I hI => ?_, fun i F hF => ?_, fun i F hF => List.all_eq_true.mp a2 F (List.mem_of_getElem? hF)⟩
  · subst hK; subst hw; subst hm
    unfold Tab.look
    cases e : P.T.g.lookup x with
    | none => trivial
    | some g =>
      have hx := lookup_in e
      cases g with
      | unk => trivial
      | no => exact He.free_ok inK ns (fg x _ _ hx (by simp [gFa]))
      | con d =>
        have z := ex (x, .con d) hx
        simp only [conB] at z
        split at z
        · rename_i u hu
          obtain ⟨v, r, q⟩ := encB_ok z
          exact ⟨u, v, PySem.W.mg_of inK ns hu, r, fun φ H => q _ φ H rfl⟩
        · cases z
      | fn f =>
        have z := at1 (x, .fn f) hx
        simp only [Option.map_eq_some_iff, decide_eq_true_eq] at z
        obtain ⟨F, z1, z2⟩ := z
        have g := He.glo_ok inK ns (fg x _ (.glo x) hx (by simp [gFa]))
        show X.mg x = some (.ref ((P.ev X.K).fa f))
        rw [g]
        show _ = some (Value.ref (match P.fs[f]? with | some F => He.fAd X.K F.at_ | none => 0))
        rw [z1]
        show _ = some (Value.ref (He.fAd X.K F.at_))
        rw [z2]; rfl
      | cls cn =>
        have z := at1 (x, .cls cn) hx
        simp only [decide_eq_true_eq] at z
        have g := He.glo_ok inK ns (fg x _ (.glo x) hx (by simp [gFa]))
        show X.mg x = some (.ref ((P.ev X.K).ca cn))
        rw [g]
        show _ = some (Value.ref (match P.cs[cn]? with | some x => He.ga X.K x | none => 0))
        rw [z]
      | dct kvs =>
        have z := ex (x, .dct kvs) hx
        have g := He.glo_ok inK ns (fg x _ (.glo x) hx (by simp [gFa]))
        refine ⟨_, g, fun y d hy => ?_⟩
        have hy2 := lookup_in hy
        have z2 := List.all_eq_true.mp (show (kvs.all fun q => match PySem.W.nsIn X.K (He.ga X.K x) q.1 with | some (some u) => encB X.K q.2 u | _ => false) = true from z) (y, d) hy2
        simp only at z2
        split at z2
        · rename_i u hu
          obtain ⟨v, r, q⟩ := encB_ok z2
          have ht : ((fun K => He.ga K x, kvs.map (·.1)) : He.Tab) ∈ P.ts := List.mem_filterMap.mpr ⟨(x, .dct kvs), hx, rfl⟩
          obtain ⟨i, hi, e2⟩ := List.mem_iff_getElem.mp ht
          obtain ⟨es, n, D⟩ := c.t.tab i (t := (fun K => He.ga K x, kvs.map (·.1))) (by rw [List.getElem?_eq_getElem hi, e2])
          exact ⟨v, ⟨es, n, u, D.at_, D.lit, hu, r⟩, fun φ H => q _ φ H rfl⟩
        · cases z2
  · subst hK
    have hl := (List.getElem?_eq_some_iff.mp hI).1
    obtain ⟨x, hx⟩ : ∃ x, P.cs[cn]? = some x := ⟨P.cs[cn], by simp [show cn < P.cs.length by omega]⟩
    have hz : (x, I) ∈ P.cs.zip P.T.c := List.mem_of_getElem? (i := cn) (List.getElem?_zip_eq_some.mpr ⟨hx, hI⟩)
    have fc : ∀ f, f ∈ cFa x I → f.ok X.K = true := fun f hf => fact f (List.mem_append_right _ (List.mem_flatMap.mpr ⟨(x, I), hz, hf⟩))
    have eca : (P.ev X.K).ca cn = He.ga X.K x := by
      show (match P.cs[cn]? with | some x => He.ga X.K x | none => 0) = _
      rw [hx]
    obtain ⟨q1, q2⟩ := at2 (x, I) hz
    refine ⟨?_, fun m f hm => ?_, fun f hf => ?_, fun f hf => ?_⟩
    · rw [eca]; exact He.cls_ok (fc (.cls x) List.mem_cons_self)
    · rw [eca]
      have hm2 := lookup_in hm
      have z := q2 (m, f) hm2
      simp only [Option.map_eq_some_iff, decide_eq_true_eq] at z
      obtain ⟨F, z1, z2⟩ := z
      have e : (P.ev X.K).fa f = He.ma X.K (He.ga X.K x) m := by
        show (match P.fs[f]? with | some F => He.fAd X.K F.at_ | none => 0) = _
        rw [z1]
        show He.fAd X.K F.at_ = _
        rw [z2]; rfl
      rw [e]
      exact He.meth_ok (fc (.meth x m) (List.mem_cons_of_mem _ (List.mem_append_right _ (List.mem_append_right _ (List.mem_map.mpr ⟨(m, f), hm2, rfl⟩)))))
    · rw [eca]
      exact He.noat_ok (fc (.noat x f) (List.mem_cons_of_mem _ (List.mem_append_right _ (List.mem_append_left _ (List.mem_map.mpr ⟨f, by simpa using hf, rfl⟩)))))
    · rw [eca]
      rw [hf] at q1
      simp only [Option.map_eq_some_iff, decide_eq_true_eq] at q1
      obtain ⟨F, z1, z2⟩ := q1
      have e : (P.ev X.K).fa f = He.ma X.K (He.ga X.K x) "__init__" := by
        show (match P.fs[f]? with | some F => He.fAd X.K F.at_ | none => 0) = _
        rw [z1]
        show He.fAd X.K F.at_ = _
        rw [z2]; rfl
      rw [e]
      exact He.mkr_ok (fc (.mkr x) (List.mem_cons_of_mem _ (List.mem_append_left _ (by rw [hf]; simp))))
  · have hd : F.d ∈ P.fn := List.mem_map.mpr ⟨F, List.mem_of_getElem? hF, rfl⟩
    obtain ⟨fd, U⟩ := c.t.d.defs hd
    obtain ⟨h1, h2⟩ := fun_of (F := F) U (bnd.at hF)
    have e : (P.ev K).fa i = He.fAd K F.at_ := by
      show (match P.fs[i]? with | some F => He.fAd K F.at_ | none => 0) = _
      rw [hF]
    exact ⟨fd, by rw [e]; exact h1, h2⟩
end
end FH
namespace FH
open PySem PySem.Spec PyProof.Rows L2
/-- what walk_fh asks, from the facts of a written part -/
theorem head_fh {P : Prg} {i : Nat} {K : PySem.W.Frag} {w : World} {h : Heap} {mg : Str → Option Value} {fa : Addr} {x : Str} (a1 : P.atB = true) (a2 : P.okB = true) (bnd : AllB P.fs) (lw : P.T.look x = .fn i) (inK : K.In h) (ns : h.Ns mainGlobals mg) (name : mg x = some (.ref fa))
    (c1 : He.SaysT P.fa P.fn P.ts w K) (c2 : P.ex K = true) : ∃ (K : PySem.W.Frag) (ε : Ev), K.In h ∧ Mdl ε P.T P.fs w K mg ∧ ε.fa i = fa := by
  have M := mdl_of a1 a2 bnd inK ns ⟨c1, c2, fun _ h => (nomatch h), fun _ h => (nomatch h), fun _ h => (nomatch h)⟩
  refine ⟨K, P.ev K, inK, M, ?_⟩
  have g := M.gl (cxOf CX0 default w K mg h [] "" ⟨.function, [], false, false, []⟩ 0 .none callerA [] {} (fun _ => none) E0) rfl rfl rfl x
  rw [lw] at g
  have g2 : mg x = some (.ref ((P.ev K).fa i)) := g
  rw [name] at g2
  cases g2; rfl
end FH
end
section
/-! FHP1: plain data that is like itself. -/
namespace FH
open PySem PySem.Spec PyProof.Rows L2
mutual
/-- data that can be compared and shown -/
def D.good : D → Bool
  | .non => true | .bl _ => true
  | .int i => decide (i.natAbs < 10 ^ 12)
  | .str x => PyData.strOk x
  | .tup ds => goodL ds
  | .lst ds => goodL ds
  | _ => false
def goodL : List D → Bool
  | [] => true
  | d :: ds => d.good && goodL ds
end
mutual
def D.wgt : D → Nat
  | .int _ => 41 | .str x => x.cps.size
  | .tup ds => wgtL ds | .lst ds => wgtL ds
  | _ => 0
def wgtL : List D → Nat
  | [] => 0
  | d :: ds => d.wgt + 1 + wgtL ds
end
mutual
def D.dep : D → Nat
  | .tup ds => depL ds + 1 | .lst ds => depL ds + 1
  | _ => 0
def depL : List D → Nat
  | [] => 0
  | d :: ds => max d.dep (depL ds)
end
structure Gd (d : D) (p : PyData) : Prop where
  py : d.py = some p
  lay : p.canLay0 = true
  short : p.leavesShort 13 = true
  show_ : p.showable = true
  w : p.weight ≤ d.wgt
  dp : p.depth = d.dep
structure GdL (d : List D) (p : List PyData) : Prop where
  py : pyL d = some p
  lay : PyData.canLayAll0 p = true
  short : PyData.leavesShortAll 13 p = true
  show_ : PyData.showableAll p = true
  w : PyData.weightAll p ≤ wgtL d
  dp : PyData.depthAll p = depL d
theorem int_small {i : Int} (h : i.natAbs < 10 ^ 12) : i.natAbs.log2 < 40 := by
  by_cases h0 : i.natAbs = 0
  · rw [h0]; decide
  · exact (Nat.log2_lt h0).mpr (Nat.lt_trans h (by decide))
mutual
theorem good_py : ∀ {d : D}, d.good = true → ∃ p, Gd d p
  | .non, _ => ⟨.none, rfl, rfl, rfl, rfl, Nat.le_refl _, rfl⟩
  | .bl b, _ => ⟨.bool b, rfl, rfl, rfl, rfl, Nat.le_refl _, rfl⟩
  | .int i, h => by
    simp only [D.good, decide_eq_true_eq] at h
    have h1 := int_small h
    refine ⟨.int i, rfl, rfl, ?_, ?_, ?_, rfl⟩
    · show decide ((PyData.shown (.int i)).length ≤ 13) = true
      have e := int_text_length_le10 (a := i) (k := 12) (by decide) h
      refine decide_eq_true ?_
      show (Str.ofString (toString i)).length ≤ 13
      rw [PySem.ofString_length]; exact e
    · simp only [PyData.showable, decide_eq_true_eq]; omega
    · simp only [PyData.weight, D.wgt]
      split <;> omega
  | .str x, h => by
    simp only [D.good] at h
    refine ⟨.str x, rfl, by simpa [PyData.canLay0] using h, ?_, rfl, Nat.le_refl _, rfl⟩
    simp only [PyData.leavesShort, List.all_eq_true, decide_eq_true_eq]
    intro c hc
    unfold PyData.strOk at h
    have := (Array.all_eq_true'.mp h) c (by simpa using hc)
    have h2 : c < 0x110000 := by simpa using this
    exact Nat.lt_trans h2 (by decide)
  | .tup ds, h => by
    simp only [D.good] at h
    obtain ⟨ps, g⟩ := goodL_py h
    exact ⟨.tuple ps, by simp [D.py, g.py], by simpa [PyData.canLay0] using g.lay, by simpa [PyData.leavesShort] using g.short, by simpa [PyData.showable] using g.show_, by simpa [PyData.weight, D.wgt] using g.w, by simp [PyData.depth, D.dep, g.dp]⟩
  | .lst ds, h => by
    simp only [D.good] at h
    obtain ⟨ps, g⟩ := goodL_py h
    exact ⟨.list ps, by simp [D.py, g.py], by simpa [PyData.canLay0] using g.lay, by simpa [PyData.leavesShort] using g.short, by simpa [PyData.showable] using g.show_, by simpa [PyData.weight, D.wgt] using g.w, by simp [PyData.depth, D.dep, g.dp]⟩
  | .ref _, h => by simp [D.good] at h
  | .fn _, h => by simp [D.good] at h
  | .ty _, h => by simp [D.good] at h
theorem goodL_py : ∀ {d : List D}, goodL d = true → ∃ p, GdL d p
  | [], _ => ⟨[], rfl, rfl, rfl, rfl, Nat.le_refl _, rfl⟩
  | d :: ds, h => by
    simp only [goodL, Bool.and_eq_true] at h
    obtain ⟨p, g⟩ := good_py h.1
    obtain ⟨ps, k⟩ := goodL_py h.2
    refine ⟨p :: ps, by simp [pyL, g.py, k.py], by simp [PyData.canLayAll0, g.lay, k.lay], by simp [PyData.leavesShortAll, g.short, k.short], by simp [PyData.showableAll, g.show_, k.show_], ?_, by simp [PyData.depthAll, depL, g.dp, k.dp]⟩
    have a := g.w
    have b := k.w
    simp only [PyData.weightAll, wgtL]
    omega
end
theorem Gd.shaped {d : D} {p : PyData} (g : Gd d p) (h : d.dep ≤ 64) : SeqAt.shaped p = true := by
  unfold SeqAt.shaped
  rw [g.lay, g.dp]
  simpa using h
theorem eqF_refl {d : D} (h : d.flat = true) : eqF d d = true := by
  cases d <;> first | rfl | (simp [eqF]; done) | (simp [D.flat] at h)
theorem eqD_refl {d : D} (h : d.good = true) (hd : d.dep ≤ 64) : eqD d d = some true := by
  unfold eqD
  split
  · rename_i hf
    simp only [Bool.and_eq_true] at hf
    rw [eqF_refl hf.1]
  · obtain ⟨p, g⟩ := good_py h
    rw [g.py]
    simp only [g.shaped hd, Bool.and_self, if_true]
    rw [SeqAt.eqv_refl p g.lay]
theorem reprD_good {d : D} (h : d.good = true) (hd : d.dep ≤ 64) (hw : d.wgt ≤ 2 ^ 20) : ∃ s, reprD d = some s := by
  obtain ⟨p, g⟩ := good_py h
  unfold reprD
  rw [g.py]
  have h1 := g.show_
  have h2 := PyData.hasDict_of_canLay p g.lay
  have h3 : p.depth ≤ 64 := by rw [g.dp]; exact hd
  have h4 := PyData.shown_fits (by decide : 8 ≤ 13) (by decide) g.short (Nat.le_trans g.w hw)
  simp only [h1, h2, Bool.not_false, Bool.and_true, Bool.true_and, Bool.and_eq_true, decide_eq_true_eq, h3, h4, and_self, if_true]
  exact ⟨_, rfl⟩
theorem eqF_str (s : Str) : eqF (.str s) (.str s) = true := by simp [eqF]
end FH
end
section
/-! FHP2: running defs; the laws' bag. -/
namespace FH
open PySem PySem.Spec PyProof.Rows L2
/-- what a def's body comes to -/
def retOf : SR → Option (D × Store)
  | some (.ret d, _, μ) => some (d, μ)
  | some (.nx, _, μ) => some (.non, μ)
  | _ => none
theorem run_eq {fs : List Fn} {k f : Nat} {F : Fn} (h : fs[f]? = some F) {ds : List D} (hl : ds.length = F.np) (μ : Store) : run fs (k + 1) f ds μ = retOf (evSs ⟨run fs k, (runP fs k).2⟩ F.body (start0 F ds) μ) := by
  show callF fs ⟨(runP fs k).1, (runP fs k).2⟩ f ds μ = _
  unfold callF
  rw [h]
  simp only [hl, if_true]
  unfold retOf
  rfl
theorem set_at {μ : Store} {n : Nat} {c d : Cell} (h : μ[n]? = some c) : (μ.set n d)[n]? = some d := by
  rw [List.getElem?_set_self (List.getElem?_eq_some_iff.mp h).1]
theorem set_off {μ : Store} {n m : Nat} {d : Cell} (h : n ≠ m) : (μ.set n d)[m]? = μ[m]? := List.getElem?_set_ne h
theorem app_at {μ : Store} {n : Nat} {c d : Cell} (h : μ[n]? = some c) : (μ ++ [d])[n]? = some c := by
  rw [List.getElem?_append_left (List.getElem?_eq_some_iff.mp h).1]; exact h
theorem app_new {μ : Store} {d : Cell} : (μ ++ [d])[μ.length]? = some d := by simp
theorem at_lt {μ : Store} {n : Nat} {c : Cell} (h : μ[n]? = some c) : n < μ.length := (List.getElem?_eq_some_iff.mp h).1
theorem atI_n {α : Type} {xs : List α} {i : Nat} {v : α} (h : xs[i]? = some v) : L2.atI xs (i : Int) = some v := atI_nat h
/-! ### rows for running -/

theorem slot_c0 {d : D} {ρ : Slots} : slotD (.val d :: ρ) 0 = some d := rfl
theorem slot_cs {s : Slot} {ρ : Slots} {i : Nat} : slotD (s :: ρ) (i + 1) = slotD ρ i := rfl
theorem own_c0 {d : List D} {ρ : Slots} : ownS (.own (.lst d) :: ρ) 0 = some d := rfl
theorem own_cs {s : Slot} {ρ : Slots} {i : Nat} : ownS (s :: ρ) (i + 1) = ownS ρ i := rfl
theorem ownv_c0 {d : List D} {ρ : Slots} : ownD (.own (.lst d) :: ρ) 0 = some (.lst d) := rfl
theorem ownt_c0 {d : List D} {ρ : Slots} : ownD (.own (.tup d) :: ρ) 0 = some (.tup d) := rfl
theorem ownv_cs {s : Slot} {ρ : Slots} {i : Nat} : ownD (s :: ρ) (i + 1) = ownD ρ i := rfl
theorem tup_c0 {d : List D} {ρ : Slots} : tupS (.own (.tup d) :: ρ) 0 = some d := rfl
theorem tup_cs {s : Slot} {ρ : Slots} {i : Nat} : tupS (s :: ρ) (i + 1) = tupS ρ i := rfl
theorem set_c0 {s t : Slot} {ρ : Slots} : (s :: ρ).set 0 t = t :: ρ := rfl
theorem set_cs {s t : Slot} {ρ : Slots} {i : Nat} : (s :: ρ).set (i + 1) t = s :: ρ.set i t := rfl
theorem setS_c {ρ : Slots} {i : Nat} {s : Slot} (h : i < ρ.length) : setS ρ i s = some (ρ.set i s) := by unfold setS; rw [if_pos h]
theorem view_lstc {μ : Store} {n : Nat} {ds : List D} (h : μ[n]? = some (.lst ds)) : viewD μ (.ref n) = .lst ds := by unfold viewD; simp only [h]
theorem view_dicc {μ : Store} {n : Nat} {ds : List (Key × D)} (h : μ[n]? = some (.dic ds)) : viewD μ (.ref n) = .ref n := by unfold viewD; simp only [h]
theorem view_int {μ : Store} {i : Int} : viewD μ (.int i) = .int i := rfl
theorem view_str {μ : Store} {i : Str} : viewD μ (.str i) = .str i := rfl
theorem view_bl {μ : Store} {i : Bool} : viewD μ (.bl i) = .bl i := rfl
theorem view_non {μ : Store} : viewD μ .non = .non := rfl
theorem view_tup {μ : Store} {i : List D} : viewD μ (.tup i) = .tup i := rfl
theorem view_lst {μ : Store} {i : List D} : viewD μ (.lst i) = .lst i := rfl
theorem view_ty {μ : Store} {i : String} : viewD μ (.ty i) = .ty i := rfl
theorem view_fn {μ : Store} {i : Nat} : viewD μ (.fn i) = .fn i := rfl
theorem p_bin {op : Operator} {a b : D} : primD (.bin op) [a, b] = binD op a b := rfl
theorem p_neg {a : Int} : primD .neg [.int a] = some (.int (-a)) := rfl
theorem p_cmp {op : CmpOp} {a b : D} : primD (.cmp op) [a, b] = cmpD op a b := rfl
theorem p_ix {a b : D} : primD .ix [a, b] = ixD a b := rfl
theorem p_len_tup {a : List D} : primD .len [.tup a] = some (.int a.length) := rfl
theorem p_len_lst {a : List D} : primD .len [.lst a] = some (.int a.length) := rfl
theorem p_abs {a : Int} : primD .abs [.int a] = some (.int (if a < 0 then -a else a)) := rfl
theorem p_int {a : Int} : primD .int [.int a] = some (.int a) := rfl
theorem p_intb {a : Bool} : primD .int [.bl a] = some (.int (if a then 1 else 0)) := rfl
theorem p_isi {a : D} {T : String} : primD .isi [a, .ty T] = (isiD a T).map .bl := rfl
theorem p_tuple_tup {a : List D} : primD .tuple [.tup a] = some (.tup a) := rfl
theorem p_tuple_lst {a : List D} : primD .tuple [.lst a] = some (.tup a) := rfl
theorem p_max {i j : Int} : primD .max [.int i, .int j] = some (.int (if j > i then j else i)) := rfl
theorem p_min {i j : Int} : primD .min [.int i, .int j] = some (.int (if j < i then j else i)) := rfl
theorem b_add_int {i j : Int} : binD .Add (.int i) (.int j) = some (.int (i + j)) := rfl
theorem b_sub_int {i j : Int} : binD .Sub (.int i) (.int j) = some (.int (i - j)) := rfl
theorem b_mul_l {i j : Int} (h : -(2 ^ 64) < i ∧ i < 2 ^ 64) : binD .Mult (.int i) (.int j) = some (.int (i * j)) := by unfold binD; simp only; rw [if_pos (.inl h)]
theorem b_mul_r {i j : Int} (h : -(2 ^ 64) < j ∧ j < 2 ^ 64) : binD .Mult (.int i) (.int j) = some (.int (i * j)) := by unfold binD; simp only; rw [if_pos (.inr h)]
theorem b_mod {i j : Int} (h : j ≠ 0) : binD .Mod (.int i) (.int j) = some (.int (i.fmod j)) := by unfold binD; simp only; rw [if_pos h]
theorem b_div {i j : Int} (h : j ≠ 0 ∧ j.natAbs < 1073741824) : binD .FloorDiv (.int i) (.int j) = some (.int (i.fdiv j)) := by unfold binD; simp only; rw [if_pos h]
theorem b_add_lst {x y : List D} (h : x.length ≤ sizeLine ∧ y.length ≤ sizeLine ∧ x.length + y.length ≤ sizeLine) : binD .Add (.lst x) (.lst y) = some (.lst (x ++ y)) := by unfold binD; simp only; rw [if_pos h]
theorem b_pow {i j : Int} (h : 0 ≤ j ∧ j ≤ 1000000 ∧ i.natAbs < 2 ^ 64) : binD .Pow (.int i) (.int j) = some (.int (i ^ j.toNat)) := by unfold binD; simp only; rw [if_pos h]
theorem c_lt {i j : Int} : cmpD .Lt (.int i) (.int j) = some (.bl (decide (i < j))) := rfl
theorem c_le {i j : Int} : cmpD .LtE (.int i) (.int j) = some (.bl (decide (i ≤ j))) := rfl
theorem c_gt {i j : Int} : cmpD .Gt (.int i) (.int j) = some (.bl (decide (j < i))) := rfl
theorem c_ge {i j : Int} : cmpD .GtE (.int i) (.int j) = some (.bl (decide (j ≤ i))) := rfl
theorem c_eq {a b : D} : cmpD .Eq a b = (eqD a b).map .bl := rfl
theorem c_ne {a b : D} : cmpD .NotEq a b = (eqD a b).map fun k => .bl !k := rfl
theorem ix_tup {ds : List D} {i : Int} : ixD (.tup ds) (.int i) = L2.atI ds i := rfl
theorem ix_lst {ds : List D} {i : Int} : ixD (.lst ds) (.int i) = L2.atI ds i := rfl
theorem at0 {α : Type} {a : α} {l : List α} : L2.atI (a :: l) 0 = some a := atI_nat (xs := a :: l) (j := 0) rfl
theorem at1 {α : Type} {a b : α} {l : List α} : L2.atI (a :: b :: l) 1 = some b := atI_nat (xs := a :: b :: l) (j := 1) rfl
theorem at2 {α : Type} {a b c : α} {l : List α} : L2.atI (a :: b :: c :: l) 2 = some c := atI_nat (xs := a :: b :: c :: l) (j := 2) rfl
theorem at3 {α : Type} {a b c d : α} {l : List α} : L2.atI (a :: b :: c :: d :: l) 3 = some d := atI_nat (xs := a :: b :: c :: d :: l) (j := 3) rfl
theorem at4 {α : Type} {a b c d e : α} {l : List α} : L2.atI (a :: b :: c :: d :: e :: l) 4 = some e := atI_nat (xs := a :: b :: c :: d :: e :: l) (j := 4) rfl
theorem at5 {α : Type} {a b c d e f : α} {l : List α} : L2.atI (a :: b :: c :: d :: e :: f :: l) 5 = some f := atI_nat (xs := a :: b :: c :: d :: e :: f :: l) (j := 5) rfl
theorem eq_int {i j : Int} : eqD (.int i) (.int j) = some (i == j) := rfl
theorem eq_str {i j : Str} : eqD (.str i) (.str j) = some (i == j) := rfl
theorem eq_bl {i j : Bool} : eqD (.bl i) (.bl j) = some (i == j) := rfl
theorem isi_tuple_tup {d : List D} : isiD (.tup d) "tuple" = some true := rfl
theorem isi_tuple_lst {d : List D} : isiD (.lst d) "tuple" = some false := rfl
theorem isi_tuple_str {d : Str} : isiD (.str d) "tuple" = some false := rfl
theorem isi_tuple_int {d : Int} : isiD (.int d) "tuple" = some false := rfl
theorem isi_tuple_bl {d : Bool} : isiD (.bl d) "tuple" = some false := rfl
theorem isi_tuple_non : isiD .non "tuple" = some false := rfl
theorem isi_str_tup {d : List D} : isiD (.tup d) "str" = some false := rfl
theorem isi_str_lst {d : List D} : isiD (.lst d) "str" = some false := rfl
theorem isi_str_str {d : Str} : isiD (.str d) "str" = some true := rfl
theorem isi_str_int {d : Int} : isiD (.int d) "str" = some false := rfl
theorem isi_str_bl {d : Bool} : isiD (.bl d) "str" = some false := rfl
theorem isi_str_non : isiD .non "str" = some false := rfl
theorem if_true_ {α : Type} {a b : α} : (if true = true then a else b) = a := rfl
theorem if_false_ {α : Type} {a b : α} : (if false = true then a else b) = b := rfl
theorem le_size {n : Nat} (h : n ≤ 1000) : (n ≤ sizeLine) = True := eq_true (Nat.le_trans h (by decide))
theorem lt_size {n : Nat} (h : n ≤ 1000) : (n < sizeLine) = True := eq_true (Nat.lt_of_le_of_lt h (by decide))
theorem b_mul_lit {i : Int} : binD .Mult (.int i) (.int 48271) = some (.int (i * 48271)) := b_mul_r (by decide)
theorem b_mul_lit2 {i : Int} : binD .Mult (.int 7919) (.int i) = some (.int (7919 * i)) := b_mul_l (by decide)
theorem b_mul_lit3 {i : Int} : binD .Mult (.int i) (.int 39373) = some (.int (i * 39373)) := b_mul_r (by decide)
theorem b_mul_lit4 {i : Int} : binD .Mult (.int i) (.int 30011) = some (.int (i * 30011)) := b_mul_r (by decide)
theorem b_mul_small {i j : Int} : binD .Mult (.int (i.fmod 1000000007)) (.int j) = some (.int (i.fmod 1000000007 * j)) := b_mul_l (by
  have h1 := Int.fmod_nonneg_of_pos i (b := 1000000007) (by decide)
  have h2 := Int.fmod_lt_of_pos i (b := 1000000007) (by decide)
  omega)
theorem b_mod_lit {i j : Int} (h : j ≠ 0) : binD .Mod (.int i) (.int j) = some (.int (i.fmod j)) := b_mod h
theorem b_div_lit {i : Int} : binD .FloorDiv (.int i) (.int 7) = some (.int (i.fdiv 7)) := b_div (by decide)
theorem b_pow_lit : binD .Pow (.int 10) (.int 18) = some (.int (10 ^ 18)) := b_pow (by decide)
theorem lst_at_ {μ : Store} {n : Nat} {ds : List D} (h : μ[n]? = some (.lst ds)) : lstAt μ (.ref n) = some (n, ds) := by unfold lstAt; simp only [h]
theorem ixN0 {n : Nat} : ixN (n + 1) 0 = some 0 := by unfold ixN; simp <;> omega
theorem ixN1 {n : Nat} : ixN (n + 1 + 1) 1 = some 1 := by unfold ixN; simp <;> omega
theorem ixN2 {n : Nat} : ixN (n + 1 + 1 + 1) 2 = some 2 := by unfold ixN; simp <;> omega
/-- the bag: three ints, the script's cells -/
def bagC (a b c : Int) (cs : List D) : Cell := .lst [.int a, .int b, .int c, .lst cs]
/-- .. all ints, not too many -/
def AllI (cs : List D) : Prop := cs.length ≤ 1000 ∧ ∀ d ∈ cs, ∃ z : Int, d = .int z
def takeA : IS := (.ifs (.prim (.cmp .Eq) (.cons (.prim .ix (.cons (.var 0) (.cons (.lit (.int 0)) .nil))) (.cons (.lit (.int 0)) .nil)))
    (.cons (.set 2 (.prim .ix (.cons (.prim (.bin .Add) (.cons (.slice (.prim .ix (.cons (.var 0) (.cons (.lit (.int 3)) .nil))) (.som (.prim .ix (.cons (.var 0) (.cons (.lit (.int 2)) .nil)))) .no) (.cons (.frz (.disp (.cons (.lit (.int 0)) .nil))) .nil))) (.cons (.lit (.int 0)) .nil))))
    (.cons (.augIx .Add (.var 0) (.lit (.int 2)) (.lit (.int 1)))
    (.cons (.ifs (.prim (.cmp .GtE) (.cons (.var 2) (.cons (.prim (.bin .Pow) (.cons (.lit (.int 10)) (.cons (.lit (.int 18)) .nil))) .nil)))
    (.cons (.setIx (.var 0) (.lit (.int 0)) (.var 2))
    .nil)
    .nil)
    (.cons (.set 3 (.prim (.bin .Add) (.cons (.prim (.bin .Add) (.cons (.prim (.bin .Mult) (.cons (.prim .ix (.cons (.var 0) (.cons (.lit (.int 1)) .nil))) (.cons (.lit (.int 48271)) .nil))) (.cons (.prim (.bin .Mod) (.cons (.prim .int (.cons (.var 2) .nil)) (.cons (.lit (.int 2147483647)) .nil))) .nil))) (.cons (.prim (.bin .Mult) (.cons (.lit (.int 7919)) (.cons (.prim .ix (.cons (.var 0) (.cons (.lit (.int 2)) .nil))) .nil))) .nil))))
    (.cons (.setIx (.var 0) (.lit (.int 1)) (.prim (.bin .Mod) (.cons (.prim .int (.cons (.var 3) .nil)) (.cons (.lit (.int 2147483647)) .nil))))
    .nil)))))
    .nil)
def takeC : ISs := (.cons (.ifs (.prim (.cmp .Gt) (.cons (.prim .ix (.cons (.var 0) (.cons (.lit (.int 0)) .nil))) (.cons (.lit (.int 0)) .nil)))
    (.cons (.set 4 (.prim (.bin .Mod) (.cons (.prim .int (.cons (.prim .ix (.cons (.var 0) (.cons (.lit (.int 0)) .nil))) .nil)) (.cons (.var 1) .nil))))
    (.cons (.setIx (.var 0) (.lit (.int 0)) (.prim (.bin .FloorDiv) (.cons (.prim .int (.cons (.prim .ix (.cons (.var 0) (.cons (.lit (.int 0)) .nil))) .nil)) (.cons (.var 1) .nil))))
    (.cons (.ret (.var 4))
    .nil)))
    .nil)
    (.cons (.set 5 (.prim (.bin .Mod) (.cons (.prim .int (.cons (.prim (.bin .Mult) (.cons (.prim (.bin .Add) (.cons (.prim .ix (.cons (.var 0) (.cons (.lit (.int 1)) .nil))) (.cons (.lit (.int 1)) .nil))) (.cons (.lit (.int 39373)) .nil))) .nil)) (.cons (.lit (.int 1000000007)) .nil))))
    (.cons (.set 6 (.prim (.bin .Mod) (.cons (.prim .int (.cons (.prim (.bin .Mult) (.cons (.prim (.bin .Mod) (.cons (.prim .int (.cons (.prim (.bin .Mult) (.cons (.var 5) (.cons (.var 5) .nil))) .nil)) (.cons (.lit (.int 998244353)) .nil))) (.cons (.lit (.int 30011)) .nil))) .nil)) (.cons (.lit (.int 998244353)) .nil))))
    (.cons (.ret (.prim (.bin .Mod) (.cons (.prim .int (.cons (.prim (.bin .FloorDiv) (.cons (.var 6) (.cons (.lit (.int 7)) .nil))) .nil)) (.cons (.var 1) .nil))))
    .nil))))
theorem set_same {μ : Store} {n : Nat} {c : Cell} (h : μ[n]? = some c) : μ.set n c = μ := by
  obtain ⟨h1, h2⟩ := List.getElem?_eq_some_iff.mp h
  rw [← h2]; exact List.set_getElem_self h1
theorem lst_set {μ : Store} {n : Nat} {ds : List D} (h : n < μ.length) : lstAt (μ.set n (.lst ds)) (.ref n) = some (n, ds) := by unfold lstAt; simp [h]
theorem view_set {μ : Store} {n : Nat} {ds : List D} (h : n < μ.length) : viewD (μ.set n (.lst ds)) (.ref n) = .lst ds := by unfold viewD; simp [h]
def takeB : ISs := .cons takeA takeC
theorem take_spec {fs : List Fn} {t k n : Nat} {μ : Store} {a b c many : Int} {cs : List D} (ht : fs[t]? = some ⟨2, 7, takeB⟩) (hb : μ[n]? = some (bagC a b c cs)) (hc : AllI cs) (h0 : 0 < many) (h1 : many < 2 ^ 20) :
    ∃ v a' b' c', run fs (k + 1) t [.ref n, .int many] μ = some (.int v, μ.set n (bagC a' b' c' cs)) ∧ 0 ≤ v ∧ v < many := by
  rw [run_eq ht rfl]
  have hn : many ≠ 0 := by omega
  have hn2 : many.natAbs < 1073741824 := by omega
  unfold bagC at hb
  -- the first part: a new cell is read when nothing is left
  have first : ∃ a' b' c' s2 s3, evS ⟨run fs k, (runP fs k).2⟩ takeA [.val (.ref n), .val (.int many), .emp, .emp, .emp, .emp, .emp] μ = some (.nx, [.val (.ref n), .val (.int many), s2, s3, .emp, .emp, .emp], μ.set n (bagC a' b' c' cs)) := by
    have hv := view_lstc hb
    have hl := lst_at_ hb
    have hlt := at_lt hb
    by_cases ha : a = 0
    · subst ha
      generalize hL : List.take (HT.sIx cs.length cs.length none - HT.sIx cs.length 0 (some c)) (List.drop (HT.sIx cs.length 0 (some c)) cs) = L at *
      have hll : L.length ≤ 1000 := by
        have := hc.1
        rw [← hL]; simp; omega
      obtain ⟨z, hz⟩ : ∃ z : Int, L2.atI (L ++ [D.int 0]) 0 = some (.int z) := by
        cases L with
        | nil => exact ⟨0, at0⟩
        | cons y ys =>
          have h1 : y ∈ (y :: ys) := List.mem_cons_self
          rw [← hL] at h1
          obtain ⟨z, rfl⟩ := hc.2 y (List.mem_of_mem_drop (List.mem_of_mem_take h1))
          exact ⟨z, at0⟩
      have hadd : binD .Add (.lst L) (.lst [.int 0]) = some (.lst (L ++ [.int 0])) := b_add_lst ⟨Nat.le_trans hll (by decide), by decide, Nat.le_trans (Nat.add_le_add_right hll 1) (by decide)⟩
      by_cases hb2 : (1000000000000000000 : Int) ≤ z
      · simp [takeA, evE, evEs, evO, evC, evF, evSrc, evIn, evS, evSs, Option.bind_some, Option.map_some, Option.bind_none, Option.map_none, List.map_cons, List.map_nil, slot_c0, slot_cs, own_c0, own_cs, ownv_c0, ownv_cs, tup_c0, tup_cs, view_int, view_str, view_bl, view_non, view_tup, view_lst, view_ty, view_fn, p_bin, p_neg, p_cmp, p_ix, p_len_tup, p_len_lst, p_abs, p_int, p_intb, p_isi, p_tuple_tup, p_tuple_lst, p_max, p_min, b_add_int, b_sub_int, c_lt, c_le, c_gt, c_ge, c_eq, c_ne, ix_tup, ix_lst, at0, at1, at2, at3, at4, at5, eq_int, eq_str, eq_bl, truD, set_c0, set_cs, setS_c, isi_tuple_tup, isi_tuple_lst, isi_tuple_str, isi_tuple_int, isi_tuple_non, isi_tuple_bl, isi_str_str, isi_str_tup, isi_str_int, isi_str_non, isi_str_lst, isi_str_bl, if_true_, if_false_, hv, hl, le_size, hL, hadd, hz, hb2, b_mul_lit, b_mul_lit2, b_mod, b_pow_lit, ixN, lst_set hlt, view_set hlt]
        exact ⟨_, _, _, rfl⟩
      · simp [takeA, evE, evEs, evO, evC, evF, evSrc, evIn, evS, evSs, Option.bind_some, Option.map_some, Option.bind_none, Option.map_none, List.map_cons, List.map_nil, slot_c0, slot_cs, own_c0, own_cs, ownv_c0, ownv_cs, tup_c0, tup_cs, view_int, view_str, view_bl, view_non, view_tup, view_lst, view_ty, view_fn, p_bin, p_neg, p_cmp, p_ix, p_len_tup, p_len_lst, p_abs, p_int, p_intb, p_isi, p_tuple_tup, p_tuple_lst, p_max, p_min, b_add_int, b_sub_int, c_lt, c_le, c_gt, c_ge, c_eq, c_ne, ix_tup, ix_lst, at0, at1, at2, at3, at4, at5, eq_int, eq_str, eq_bl, truD, set_c0, set_cs, setS_c, isi_tuple_tup, isi_tuple_lst, isi_tuple_str, isi_tuple_int, isi_tuple_non, isi_tuple_bl, isi_str_str, isi_str_tup, isi_str_int, isi_str_non, isi_str_lst, isi_str_bl, if_true_, if_false_, hv, hl, le_size, hL, hadd, hz, hb2, b_mul_lit, b_mul_lit2, b_mod, b_pow_lit, ixN, lst_set hlt, view_set hlt]
        exact ⟨_, _, _, rfl⟩
    · simp [ha, takeA, evE, evEs, evO, evC, evF, evSrc, evIn, evS, evSs, Option.bind_some, Option.map_some, Option.bind_none, Option.map_none, List.map_cons, List.map_nil, slot_c0, slot_cs, own_c0, own_cs, ownv_c0, ownv_cs, tup_c0, tup_cs, view_int, view_str, view_bl, view_non, view_tup, view_lst, view_ty, view_fn, p_bin, p_neg, p_cmp, p_ix, p_len_tup, p_len_lst, p_abs, p_int, p_intb, p_isi, p_tuple_tup, p_tuple_lst, p_max, p_min, b_add_int, b_sub_int, c_lt, c_le, c_gt, c_ge, c_eq, c_ne, ix_tup, ix_lst, at0, at1, at2, at3, at4, at5, eq_int, eq_str, eq_bl, truD, set_c0, set_cs, setS_c, isi_tuple_tup, isi_tuple_lst, isi_tuple_str, isi_tuple_int, isi_tuple_non, isi_tuple_bl, isi_str_str, isi_str_tup, isi_str_int, isi_str_non, isi_str_lst, isi_str_bl, if_true_, if_false_, hv, hl]
      exact ⟨a, b, c, by rw [set_same (show μ[n]? = some (bagC a b c cs) from hb)]⟩
  obtain ⟨a1, b1, c1, s2, s3, e1⟩ := first
  have hlt := at_lt hb
  have second : ∃ v a2 b2 c2, retOf (evSs ⟨run fs k, (runP fs k).2⟩ takeC [.val (.ref n), .val (.int many), s2, s3, .emp, .emp, .emp] (μ.set n (bagC a1 b1 c1 cs))) = some (.int v, μ.set n (bagC a2 b2 c2 cs)) ∧ 0 ≤ v ∧ v < many := by
    unfold bagC
    by_cases hp : 0 < a1
    · refine ⟨a1.fmod many, a1.fdiv many, b1, c1, ?_, Int.fmod_nonneg_of_pos _ h0, Int.fmod_lt_of_pos _ h0⟩
      simp [takeC, evE, evEs, evO, evC, evF, evSrc, evIn, evS, evSs, Option.bind_some, Option.map_some, Option.bind_none, Option.map_none, List.map_cons, List.map_nil, slot_c0, slot_cs, own_c0, own_cs, ownv_c0, ownv_cs, tup_c0, tup_cs, view_int, view_str, view_bl, view_non, view_tup, view_lst, view_ty, view_fn, p_bin, p_neg, p_cmp, p_ix, p_len_tup, p_len_lst, p_abs, p_int, p_intb, p_isi, p_tuple_tup, p_tuple_lst, p_max, p_min, b_add_int, b_sub_int, c_lt, c_le, c_gt, c_ge, c_eq, c_ne, ix_tup, ix_lst, at0, at1, at2, at3, at4, at5, eq_int, eq_str, eq_bl, truD, set_c0, set_cs, setS_c, isi_tuple_tup, isi_tuple_lst, isi_tuple_str, isi_tuple_int, isi_tuple_non, isi_tuple_bl, isi_str_str, isi_str_tup, isi_str_int, isi_str_non, isi_str_lst, isi_str_bl, if_true_, if_false_, hp, le_size, b_mod hn, b_div ⟨hn, hn2⟩, ixN, lst_set hlt, view_set hlt, retOf]
    · refine ⟨((((((b1 + 1) * 39373).fmod 1000000007 * ((b1 + 1) * 39373).fmod 1000000007).fmod 998244353 * 30011).fmod 998244353).fdiv 7).fmod many, a1, b1, c1, ?_, Int.fmod_nonneg_of_pos _ h0, Int.fmod_lt_of_pos _ h0⟩
      simp [takeC, evE, evEs, evO, evC, evF, evSrc, evIn, evS, evSs, Option.bind_some, Option.map_some, Option.bind_none, Option.map_none, List.map_cons, List.map_nil, slot_c0, slot_cs, own_c0, own_cs, ownv_c0, ownv_cs, tup_c0, tup_cs, view_int, view_str, view_bl, view_non, view_tup, view_lst, view_ty, view_fn, p_bin, p_neg, p_cmp, p_ix, p_len_tup, p_len_lst, p_abs, p_int, p_intb, p_isi, p_tuple_tup, p_tuple_lst, p_max, p_min, b_add_int, b_sub_int, c_lt, c_le, c_gt, c_ge, c_eq, c_ne, ix_tup, ix_lst, at0, at1, at2, at3, at4, at5, eq_int, eq_str, eq_bl, truD, set_c0, set_cs, setS_c, isi_tuple_tup, isi_tuple_lst, isi_tuple_str, isi_tuple_int, isi_tuple_non, isi_tuple_bl, isi_str_str, isi_str_tup, isi_str_int, isi_str_non, isi_str_lst, isi_str_bl, if_true_, if_false_, hp, le_size, b_mod, hn, b_mul_lit3, b_mul_lit4, b_mul_small, b_div_lit, ixN, lst_set hlt, view_set hlt, retOf]
  obtain ⟨v, a2, b2, c2, e2, v1, v2⟩ := second
  refine ⟨v, a2, b2, c2, ?_, v1, v2⟩
  show retOf (evSs _ takeB [.val (.ref n), .val (.int many), .emp, .emp, .emp, .emp, .emp] μ) = _
  unfold takeB
  simp only [evSs, e1, Option.bind_some]
  exact e2
end FH
end
section
/-! FHP3: the laws' bag, some, alike. -/
namespace FH
open PySem PySem.Spec PyProof.Rows L2
theorem loopC_map {f : D → Store → Option (Option D × Store)} {g : D → D} {μ : Store} : ∀ {xs : List D}, (∀ x ∈ xs, f x μ = some (some (g x), μ)) → loopC f xs μ = some (xs.map g, μ)
  | [], _ => rfl
  | x :: xs, h => by
    simp only [loopC, h x List.mem_cons_self, Option.bind_some, loopC_map fun y hy => h y (List.mem_cons_of_mem _ hy), List.map_cons]
def someB : ISs := (.cons (.ret (.prim .ix (.cons (.var 1) (.cons (.call "_law_take" 0 (.cons (.var 0) (.cons (.prim .len (.cons (.var 1) .nil)) .nil))) .nil))))
    .nil)
/-- the bag at n -/
def BagAt (μ : Store) (n : Nat) (cs : List D) : Prop := ∃ a b c, μ[n]? = some (bagC a b c cs)
/-- .. after a take: the same but for the three ints -/
def Stir (n : Nat) (cs : List D) (μ μ' : Store) : Prop := ∃ a b c, μ' = μ.set n (bagC a b c cs)
theorem BagAt.stir {μ μ' : Store} {n : Nat} {cs : List D} (h : BagAt μ n cs) (s : Stir n cs μ μ') : BagAt μ' n cs := by
  obtain ⟨a, b, c, h⟩ := h
  obtain ⟨a', b', c', rfl⟩ := s
  exact ⟨a', b', c', set_at h⟩
theorem Stir.len {μ μ' : Store} {n : Nat} {cs : List D} (s : Stir n cs μ μ') : μ'.length = μ.length := by
  obtain ⟨a', b', c', rfl⟩ := s; simp
theorem Stir.off {μ μ' : Store} {n m : Nat} {cs : List D} (s : Stir n cs μ μ') (h : n ≠ m) : μ'[m]? = μ[m]? := by
  obtain ⟨a', b', c', rfl⟩ := s; exact set_off h
theorem Stir.trans {μ μ' μ'' : Store} {n : Nat} {cs : List D} (s : Stir n cs μ μ') (t : Stir n cs μ' μ'') : Stir n cs μ μ'' := by
  obtain ⟨a, b, c, rfl⟩ := s
  obtain ⟨a', b', c', rfl⟩ := t
  exact ⟨a', b', c', by rw [List.set_set]⟩
theorem take_at {fs : List Fn} {t k n : Nat} {μ : Store} {many : Int} {cs : List D} (ht : fs[t]? = some ⟨2, 7, takeB⟩) (hb : BagAt μ n cs) (hc : AllI cs) (h0 : 0 < many) (h1 : many < 2 ^ 20) :
    ∃ v μ', run fs (k + 1) t [.ref n, .int many] μ = some (.int v, μ') ∧ Stir n cs μ μ' ∧ 0 ≤ v ∧ v < many := by
  obtain ⟨a, b, c, h⟩ := hb
  obtain ⟨v, a', b', c', e, v1, v2⟩ := take_spec (k := k) ht h hc h0 h1
  exact ⟨v, _, e, ⟨a', b', c', rfl⟩, v1, v2⟩
/-- some(bag, things) -/
theorem some_at {fs : List Fn} {s t k n : Nat} {μ : Store} {ds : List D} {cs : List D} (ht : fs[t]? = some ⟨2, 7, takeB⟩) (hs : fs[s]? = some ⟨2, 2, (.cons (.ret (.prim .ix (.cons (.var 1) (.cons (.call "_law_take" t (.cons (.var 0) (.cons (.prim .len (.cons (.var 1) .nil)) .nil))) .nil)))) .nil)⟩)
    (hb : BagAt μ n cs) (hc : AllI cs) (h0 : ds ≠ []) (h1 : ds.length < 2 ^ 20) :
    ∃ d μ', run fs (k + 2) s [.ref n, .lst ds] μ = some (d, μ') ∧ Stir n cs μ μ' ∧ d ∈ ds := by
  obtain ⟨v, μ', e, st, v1, v2⟩ := take_at (k := k) (many := (ds.length : Int)) ht hb hc (by have := List.length_pos_iff.mpr h0; omega) (by omega)
  obtain ⟨j, rfl⟩ := Int.eq_ofNat_of_zero_le v1
  have hj : j < ds.length := by omega
  refine ⟨ds[j], μ', ?_, st, List.getElem_mem hj⟩
  rw [run_eq hs rfl]
  have ha : L2.atI ds (j : Int) = some ds[j] := atI_nat (by simp [hj])
  simp [start0, evE, evEs, evO, evC, evF, evSrc, evIn, evS, evSs, Option.bind_some, Option.map_some, Option.bind_none, Option.map_none, List.map_cons, List.map_nil, slot_c0, slot_cs, own_c0, own_cs, ownv_c0, ownv_cs, tup_c0, tup_cs, view_int, view_str, view_bl, view_non, view_tup, view_lst, view_ty, view_fn, p_bin, p_neg, p_cmp, p_ix, p_len_tup, p_len_lst, p_abs, p_int, p_intb, p_isi, p_tuple_tup, p_tuple_lst, p_max, p_min, b_add_int, b_sub_int, c_lt, c_le, c_gt, c_ge, c_eq, c_ne, ix_tup, ix_lst, at0, at1, at2, at3, at4, at5, eq_int, eq_str, eq_bl, truD, set_c0, set_cs, setS_c, isi_tuple_tup, isi_tuple_lst, isi_tuple_str, isi_tuple_int, isi_tuple_non, isi_tuple_bl, isi_str_str, isi_str_tup, isi_str_int, isi_str_non, isi_str_lst, isi_str_bl, if_true_, if_false_, e, ha, retOf]
/-- the bag is made -/
theorem bag_at {fs : List Fn} {b k : Nat} {μ : Store} {ns : List Int} {i : Nat} (hb : fs[b]? = some ⟨1, 2, (.cons (.ret (.cell (.disp (.cons (.lit (.int 0)) (.cons (.lit (.int 1234567891)) (.cons (.lit (.int 0)) (.cons (.frz (.comp (.nm 1) [("cell", 1)] (.it (.slice (.var 0) .no (.som (.lit (.int 63))))) .no (.prim .abs (.cons (.var 1) .nil)))) .nil))))))) .nil)⟩) (hl : ns.length ≤ 63) :
    ∃ cs, run fs (k + 1) b [.lst (ns.map .int)] μ = some (.ref μ.length, μ ++ [bagC 0 1234567891 0 cs]) ∧ AllI cs := by
  rw [run_eq hb rfl]
  generalize hL : List.take (HT.sIx ns.length ns.length (some 63) - HT.sIx ns.length 0 none) (List.drop (HT.sIx ns.length 0 none) (ns.map D.int)) = L
  have hll : L.length ≤ 63 := by rw [← hL]; simp; omega
  have hint : ∀ x ∈ L, ∃ z : Int, x = .int z := fun x hx => by
    rw [← hL] at hx
    obtain ⟨z, _, rfl⟩ := List.mem_map.mp (List.mem_of_mem_drop (List.mem_of_mem_take hx))
    exact ⟨z, rfl⟩
  refine ⟨L.map fun d => match d with | .int z => .int (if z < 0 then -z else z) | d => d, ?_, by simp; omega, fun d hd => ?_⟩
  · have key : loopC (fun x μ => (asgT (.nm 1) x (wipeS [.val (.lst (ns.map D.int)), .emp] [1])).bind fun ρ' => (evC ⟨run fs k, (runP fs k).2⟩ .no ρ' μ).bind fun k' =>
        if k'.1 then (evE ⟨run fs k, (runP fs k).2⟩ (.prim .abs (.cons (.var 1) .nil)) ρ' k'.2).map fun q => (some q.1, q.2) else some (none, k'.2)) L μ = some (L.map fun d => match d with | .int z => .int (if z < 0 then -z else z) | d => d, μ) := by
      refine loopC_map fun x hx => ?_
      obtain ⟨z, rfl⟩ := hint x hx
      simp [asgT, wipeS, evE, evEs, evO, evC, evF, evSrc, evIn, evS, evSs, Option.bind_some, Option.map_some, Option.bind_none, Option.map_none, List.map_cons, List.map_nil, slot_c0, slot_cs, own_c0, own_cs, ownv_c0, ownv_cs, tup_c0, tup_cs, view_int, view_str, view_bl, view_non, view_tup, view_lst, view_ty, view_fn, p_bin, p_neg, p_cmp, p_ix, p_len_tup, p_len_lst, p_abs, p_int, p_intb, p_isi, p_tuple_tup, p_tuple_lst, p_max, p_min, b_add_int, b_sub_int, c_lt, c_le, c_gt, c_ge, c_eq, c_ne, ix_tup, ix_lst, at0, at1, at2, at3, at4, at5, eq_int, eq_str, eq_bl, truD, set_c0, set_cs, setS_c, isi_tuple_tup, isi_tuple_lst, isi_tuple_str, isi_tuple_int, isi_tuple_non, isi_tuple_bl, isi_str_str, isi_str_tup, isi_str_int, isi_str_non, isi_str_lst, isi_str_bl, if_true_, if_false_]
    have hs : evSrc ⟨run fs k, (runP fs k).2⟩ (.it (.slice (.var 0) .no (.som (.lit (.int 63))))) [.val (.lst (ns.map D.int)), .emp] μ = some (.items L, μ) := by
      simp [evE, evEs, evO, evC, evF, evSrc, evIn, evS, evSs, Option.bind_some, Option.map_some, Option.bind_none, Option.map_none, List.map_cons, List.map_nil, slot_c0, slot_cs, own_c0, own_cs, ownv_c0, ownv_cs, tup_c0, tup_cs, view_int, view_str, view_bl, view_non, view_tup, view_lst, view_ty, view_fn, p_bin, p_neg, p_cmp, p_ix, p_len_tup, p_len_lst, p_abs, p_int, p_intb, p_isi, p_tuple_tup, p_tuple_lst, p_max, p_min, b_add_int, b_sub_int, c_lt, c_le, c_gt, c_ge, c_eq, c_ne, ix_tup, ix_lst, at0, at1, at2, at3, at4, at5, eq_int, eq_str, eq_bl, truD, set_c0, set_cs, setS_c, isi_tuple_tup, isi_tuple_lst, isi_tuple_str, isi_tuple_int, isi_tuple_non, isi_tuple_bl, isi_str_str, isi_str_tup, isi_str_int, isi_str_non, isi_str_lst, isi_str_bl, if_true_, if_false_, itemsD, hL]
    have hf : evF ⟨run fs k, (runP fs k).2⟩ (.comp (.nm 1) [("cell", 1)] (.it (.slice (.var 0) .no (.som (.lit (.int 63))))) .no (.prim .abs (.cons (.var 1) .nil))) [.val (.lst (ns.map D.int)), .emp] μ = some (L.map fun d => match d with | .int z => .int (if z < 0 then -z else z) | d => d, μ) := by
      unfold evF
      rw [hs]
      simp only [Option.bind_some]
      rw [if_pos (Nat.lt_of_le_of_lt hll (by decide))]
      exact key
    show retOf (evSs _ (.cons (.ret (.cell (.disp (.cons (.lit (.int 0)) (.cons (.lit (.int 1234567891)) (.cons (.lit (.int 0)) (.cons (.frz (.comp (.nm 1) [("cell", 1)] (.it (.slice (.var 0) .no (.som (.lit (.int 63))))) .no (.prim .abs (.cons (.var 1) .nil)))) .nil))))))) .nil) [.val (.lst (ns.map D.int)), .emp] μ) = _
    generalize FE.comp (.nm 1) [("cell", 1)] (.it (.slice (.var 0) .no (.som (.lit (.int 63))))) .no (.prim .abs (.cons (.var 1) .nil)) = fe at hf ⊢
    simp [evE, evEs, evO, evC, evF, evSrc, evIn, evS, evSs, Option.bind_some, Option.map_some, Option.bind_none, Option.map_none, List.map_cons, List.map_nil, slot_c0, slot_cs, own_c0, own_cs, ownv_c0, ownv_cs, tup_c0, tup_cs, view_int, view_str, view_bl, view_non, view_tup, view_lst, view_ty, view_fn, p_bin, p_neg, p_cmp, p_ix, p_len_tup, p_len_lst, p_abs, p_int, p_intb, p_isi, p_tuple_tup, p_tuple_lst, p_max, p_min, b_add_int, b_sub_int, c_lt, c_le, c_gt, c_ge, c_eq, c_ne, ix_tup, ix_lst, at0, at1, at2, at3, at4, at5, eq_int, eq_str, eq_bl, truD, set_c0, set_cs, setS_c, isi_tuple_tup, isi_tuple_lst, isi_tuple_str, isi_tuple_int, isi_tuple_non, isi_tuple_bl, isi_str_str, isi_str_tup, isi_str_int, isi_str_non, isi_str_lst, isi_str_bl, if_true_, if_false_, hf, retOf, le_size, bagC]
  · obtain ⟨x, hx, rfl⟩ := List.mem_map.mp hd
    obtain ⟨z, rfl⟩ := hint x hx
    exact ⟨_, rfl⟩
/-- alike(d, d) -/
theorem alike_at {fs : List Fn} {a k : Nat} {μ : Store} {d : D} (ha : fs[a]? = some ⟨2, 2, (.cons (.ret (.andd (.prim (.cmp .Eq) (.cons (.prim .repr (.cons (.var 0) .nil)) (.cons (.prim .repr (.cons (.var 1) .nil)) .nil))) (.prim (.cmp .Eq) (.cons (.var 0) (.cons (.var 1) .nil))))) .nil)⟩)
    (g : d.good = true) (hd : d.dep ≤ 64) (hw : d.wgt ≤ 2 ^ 20) : run fs (k + 1) a [d, d] μ = some (.bl true, μ) := by
  rw [run_eq ha rfl]
  obtain ⟨s, hs⟩ := reprD_good g hd hw
  have hv : viewD μ d = d := by cases d <;> first | rfl | (simp [D.good] at g)
  have p1 : primD .repr [d] = some (.str s) := by
    show (reprD d).map D.str = _
    rw [hs]; rfl
  have e := eqD_refl g hd
  simp [start0, evE, evEs, evO, evC, evF, evSrc, evIn, evS, evSs, Option.bind_some, Option.map_some, Option.bind_none, Option.map_none, List.map_cons, List.map_nil, slot_c0, slot_cs, own_c0, own_cs, ownv_c0, ownv_cs, tup_c0, tup_cs, view_int, view_str, view_bl, view_non, view_tup, view_lst, view_ty, view_fn, p_bin, p_neg, p_cmp, p_ix, p_len_tup, p_len_lst, p_abs, p_int, p_intb, p_isi, p_tuple_tup, p_tuple_lst, p_max, p_min, b_add_int, b_sub_int, c_lt, c_le, c_gt, c_ge, c_eq, c_ne, ix_tup, ix_lst, at0, at1, at2, at3, at4, at5, eq_int, eq_str, eq_bl, truD, set_c0, set_cs, setS_c, isi_tuple_tup, isi_tuple_lst, isi_tuple_str, isi_tuple_int, isi_tuple_non, isi_tuple_bl, isi_str_str, isi_str_tup, isi_str_int, isi_str_non, isi_str_lst, isi_str_bl, if_true_, if_false_, hv, p1, e, retOf]
end FH
end
section
namespace FH.K06
open PySem PySem.Spec PyProof.Rows L2
def gp (x : Str) (g : G) : Str × G := (x, g)
/-- the text by places -/
def top (i : Nat) : Stmt := PySem.Challenge.pw_formulahall_k06_whole_kinds_led_together.main.body.getD i (.Pass ⟨0, 0, 0, 0⟩)
def c_PLAIN : D := (.tup [(.str "number"), (.str "text"), (.str "truth")])
def c_ORDERED : D := (.tup [(.str "number"), (.str "text")])
def c_STRENGTH : List (Str × D) := [("any", (.int 0)), ("plain", (.int 1)), ("ordered", (.int 2))]
/-- is_sized(thing, many): 0 thing, 1 many -/
def b0 : ISs := (.cons (.ret (.andd (.prim .isi (.cons (.var 0) (.cons (.glob "tuple" (.ty "tuple")) .nil))) (.prim (.cmp .Eq) (.cons (.prim .len (.cons (.var 0) .nil)) (.cons (.var 1) .nil)))))
    .nil)
def f0 : FDef := ⟨("is_sized", none), "is_sized", "is_sized", top 1, ["thing", "many"], ["thing", "many"], ⟨2, 2, b0⟩⟩
/-- is_kind(thing): 0 thing -/
def b1 : ISs := (.cons (.ifs (.prim .isi (.cons (.var 0) (.cons (.glob "str" (.ty "str")) .nil)))
    (.cons (.ret (.prim (.cmp .In) (.cons (.var 0) (.cons (.glob "PLAIN" c_PLAIN) .nil))))
    .nil)
    .nil)
    (.cons (.ifs (.orr (.nott (.call "is_sized" 0 (.cons (.var 0) (.cons (.lit (.int 2)) .nil)))) (.orr (.nott (.prim .isi (.cons (.prim .ix (.cons (.var 0) (.cons (.lit (.int 0)) .nil))) (.cons (.glob "str" (.ty "str")) .nil)))) (.prim (.cmp .NotEq) (.cons (.prim .ix (.cons (.var 0) (.cons (.lit (.int 0)) .nil))) (.cons (.lit (.str "row")) .nil)))))
    (.cons (.ret (.lit (.bl false)))
    .nil)
    .nil)
    (.cons (.ret (.andd (.prim .isi (.cons (.prim .ix (.cons (.var 0) (.cons (.lit (.int 1)) .nil))) (.cons (.glob "str" (.ty "str")) .nil))) (.prim (.cmp .In) (.cons (.prim .ix (.cons (.var 0) (.cons (.lit (.int 1)) .nil))) (.cons (.glob "PLAIN" c_PLAIN) .nil)))))
    .nil)))
def f1 : FDef := ⟨("is_kind", none), "is_kind", "is_kind", top 6, ["thing"], ["thing"], ⟨1, 1, b1⟩⟩
/-- is_let(kind, word): 0 kind, 1 word -/
def b2 : ISs := (.cons (.ifs (.prim .isi (.cons (.var 0) (.cons (.glob "tuple" (.ty "tuple")) .nil)))
    (.cons (.ret (.prim (.cmp .Eq) (.cons (.var 1) (.cons (.lit (.str "any")) .nil))))
    .nil)
    .nil)
    (.cons (.ret (.orr (.prim (.cmp .NotEq) (.cons (.var 1) (.cons (.lit (.str "ordered")) .nil))) (.prim (.cmp .In) (.cons (.var 0) (.cons (.glob "ORDERED" c_ORDERED) .nil)))))
    .nil))
def f2 : FDef := ⟨("is_let", none), "is_let", "is_let", top 7, ["kind", "word"], ["kind", "word"], ⟨2, 2, b2⟩⟩
/-- is_some(kind): 0 kind -/
def b3 : ISs := (.cons (.ret (.prim (.cmp .Eq) (.cons (.prim .ix (.cons (.var 0) (.cons (.lit (.int 0)) .nil))) (.cons (.lit (.str "some")) .nil))))
    .nil)
def f3 : FDef := ⟨("is_some", none), "is_some", "is_some", top 8, ["kind"], ["kind"], ⟨1, 1, b3⟩⟩
/-- Solver.__init__(self): 0 self -/
def b4 : ISs := (.cons (.setAt 0 (.var 0) "told" .celld)
    (.cons (.setAt 0 (.var 0) "limits" (.cell (.disp .nil)))
    .nil))
def f4 : FDef := ⟨("Solver", some ("__init__" : Str)), "__init__", "Solver.__init__", inClass (top 9) 0, ["self"], ["self"], ⟨1, 1, b4⟩⟩
/-- Solver.fresh(self, limit): 0 self, 1 limit -/
def b5 : ISs := (.cons (.app (.attr 0 (.var 0) "limits") (.var 1))
    (.cons (.ret (.tup (.cons (.lit (.str "some")) (.cons (.prim (.bin .Sub) (.cons (.prim .len (.cons (.attr 0 (.var 0) "limits") .nil)) (.cons (.lit (.int 1)) .nil))) .nil))))
    .nil))
def f5 : FDef := ⟨("Solver", some ("fresh" : Str)), "fresh", "Solver.fresh", inClass (top 9) 1, ["self", "limit"], ["self", "limit"], ⟨2, 2, b5⟩⟩
/-- Solver.found(self, kind): 0 self, 1 kind -/
def b6 : ISs := (.cons (.whil (.andd (.call "is_some" 3 (.cons (.var 1) .nil)) (.dhas false (.prim .ix (.cons (.var 1) (.cons (.lit (.int 1)) .nil))) (.attr 0 (.var 0) "told")))
    (.cons (.set 1 (.dget (.attr 0 (.var 0) "told") (.prim .ix (.cons (.var 1) (.cons (.lit (.int 1)) .nil)))))
    .nil))
    (.cons (.ret (.var 1))
    .nil))
def f6 : FDef := ⟨("Solver", some ("found" : Str)), "found", "Solver.found", inClass (top 9) 2, ["self", "kind"], ["self", "kind"], ⟨2, 2, b6⟩⟩
/-- Solver.row_of(self, kind): 0 self, 1 kind -/
def b7 : ISs := (.cons (.ret (.cond (.mcall 0 "limit" 8 (.var 0) (.cons (.var 1) (.cons (.lit (.str "plain")) .nil))) (.tup (.cons (.lit (.str "row")) (.cons (.var 1) .nil))) (.lit .non)))
    .nil)
def f7 : FDef := ⟨("Solver", some ("row_of" : Str)), "row_of", "Solver.row_of", inClass (top 9) 3, ["self", "kind"], ["self", "kind"], ⟨2, 2, b7⟩⟩
/-- Solver.limit(self, kind, word): 0 self, 1 kind, 2 word -/
def b8 : ISs := (.cons (.set 1 (.mcall 0 "found" 6 (.var 0) (.cons (.var 1) .nil)))
    (.cons (.ifs (.nott (.call "is_some" 3 (.cons (.var 1) .nil)))
    (.cons (.ret (.call "is_let" 2 (.cons (.var 1) (.cons (.var 2) .nil))))
    .nil)
    .nil)
    (.cons (.ifs (.prim (.cmp .Gt) (.cons (.gdget "STRENGTH" c_STRENGTH (.var 2)) (.cons (.gdget "STRENGTH" c_STRENGTH (.prim .ix (.cons (.attr 0 (.var 0) "limits") (.cons (.prim .ix (.cons (.var 1) (.cons (.lit (.int 1)) .nil))) .nil)))) .nil)))
    (.cons (.setIx (.attr 0 (.var 0) "limits") (.prim .ix (.cons (.var 1) (.cons (.lit (.int 1)) .nil))) (.var 2))
    .nil)
    .nil)
    (.cons (.ret (.lit (.bl true)))
    .nil))))
def f8 : FDef := ⟨("Solver", some ("limit" : Str)), "limit", "Solver.limit", inClass (top 9) 4, ["self", "kind", "word"], ["self", "kind", "word"], ⟨3, 3, b8⟩⟩
/-- Solver.tell(self, some, kind): 0 self, 1 some, 2 kind -/
def b9 : ISs := (.cons (.ifs (.call "is_some" 3 (.cons (.var 2) .nil))
    (.cons (.ifs (.prim (.cmp .NotEq) (.cons (.var 2) (.cons (.var 1) .nil)))
    (.cons (.setKy (.attr 0 (.var 0) "told") (.prim .ix (.cons (.var 1) (.cons (.lit (.int 1)) .nil))) (.var 2))
    .nil)
    .nil)
    (.cons (.ret (.mcall 0 "limit" 8 (.var 0) (.cons (.var 2) (.cons (.prim .ix (.cons (.attr 0 (.var 0) "limits") (.cons (.prim .ix (.cons (.var 1) (.cons (.lit (.int 1)) .nil))) .nil))) .nil))))
    .nil))
    .nil)
    (.cons (.setKy (.attr 0 (.var 0) "told") (.prim .ix (.cons (.var 1) (.cons (.lit (.int 1)) .nil))) (.var 2))
    (.cons (.ret (.call "is_let" 2 (.cons (.var 2) (.cons (.prim .ix (.cons (.attr 0 (.var 0) "limits") (.cons (.prim .ix (.cons (.var 1) (.cons (.lit (.int 1)) .nil))) .nil))) .nil))))
    .nil)))
def f9 : FDef := ⟨("Solver", some ("tell" : Str)), "tell", "Solver.tell", inClass (top 9) 5, ["self", "some", "kind"], ["self", "some", "kind"], ⟨3, 3, b9⟩⟩
/-- Solver.unify(self, one, other): 0 self, 1 one, 2 other -/
def b10 : ISs := (.cons (.par 1 2 (.v (.mcall 0 "found" 6 (.var 0) (.cons (.var 1) .nil))) (.v (.mcall 0 "found" 6 (.var 0) (.cons (.var 2) .nil))))
    (.cons (.ifs (.call "is_some" 3 (.cons (.var 1) .nil))
    (.cons (.ret (.mcall 0 "tell" 9 (.var 0) (.cons (.var 1) (.cons (.var 2) .nil))))
    .nil)
    .nil)
    (.cons (.ifs (.call "is_some" 3 (.cons (.var 2) .nil))
    (.cons (.ret (.mcall 0 "tell" 9 (.var 0) (.cons (.var 2) (.cons (.var 1) .nil))))
    .nil)
    .nil)
    (.cons (.ifs (.andd (.prim .isi (.cons (.var 1) (.cons (.glob "tuple" (.ty "tuple")) .nil))) (.prim .isi (.cons (.var 2) (.cons (.glob "tuple" (.ty "tuple")) .nil))))
    (.cons (.ret (.mcall 0 "unify" 10 (.var 0) (.cons (.prim .ix (.cons (.var 1) (.cons (.lit (.int 1)) .nil))) (.cons (.prim .ix (.cons (.var 2) (.cons (.lit (.int 1)) .nil))) .nil))))
    .nil)
    .nil)
    (.cons (.ret (.prim (.cmp .Eq) (.cons (.var 1) (.cons (.var 2) .nil))))
    .nil)))))
def f10 : FDef := ⟨("Solver", some ("unify" : Str)), "unify", "Solver.unify", inClass (top 9) 6, ["self", "one", "other"], ["self", "one", "other"], ⟨3, 3, b10⟩⟩
/-- Solver.led(self, kind): 0 self, 1 kind -/
def b11 : ISs := (.cons (.set 1 (.mcall 0 "found" 6 (.var 0) (.cons (.var 1) .nil)))
    (.cons (.ret (.cond (.prim (.cmp .Eq) (.cons (.prim .ix (.cons (.var 1) (.cons (.lit (.int 0)) .nil))) (.cons (.lit (.str "row")) .nil))) (.tup (.cons (.lit (.str "row")) (.cons (.mcall 0 "led" 11 (.var 0) (.cons (.prim .ix (.cons (.var 1) (.cons (.lit (.int 1)) .nil))) .nil)) .nil))) (.var 1)))
    .nil))
def f11 : FDef := ⟨("Solver", some ("led" : Str)), "led", "Solver.led", inClass (top 9) 7, ["self", "kind"], ["self", "kind"], ⟨2, 2, b11⟩⟩
/-- Solver.twin(self): 0 self, 1 other -/
def b12 : ISs := (.cons (.set 1 (.make "Solver" 0 4 .nil))
    (.cons (.setAt2 0 1 "told" "limits" (.dcopy (.attr 0 (.var 0) "told")) (.cell (.list (.attr 0 (.var 0) "limits"))))
    (.cons (.ret (.var 1))
    .nil)))
def f12 : FDef := ⟨("Solver", some ("twin" : Str)), "twin", "Solver.twin", inClass (top 9) 8, ["self"], ["self", "other"], ⟨1, 2, b12⟩⟩
/-- numbered(kinds): 0 kinds, 1 told, 2 found, 3 kind -/
def b13 : ISs := (.cons (.par 1 2 (.v .celld) (.o (.disp .nil)))
    (.cons (.fors (.nm 3) (.it (.var 0))
    (.cons (.appOwn 2 (.call "anew" 14 (.cons (.var 3) (.cons (.var 1) .nil))))
    .nil))
    (.cons (.ret (.prim .tuple (.cons (.own 2) .nil)))
    .nil)))
def f13 : FDef := ⟨("numbered", none), "numbered", "numbered", top 10, ["kinds"], ["kinds", "told", "found", "kind"], ⟨1, 4, b13⟩⟩
/-- anew(kind, told): 0 kind, 1 told -/
def b14 : ISs := (.cons (.ifs (.call "is_some" 3 (.cons (.var 0) .nil))
    (.cons (.ret (.tup (.cons (.lit (.str "some")) (.cons (.dsetd (.var 1) (.prim .ix (.cons (.var 0) (.cons (.lit (.int 1)) .nil))) (.dlen (.var 1))) .nil))))
    .nil)
    .nil)
    (.cons (.ret (.cond (.prim (.cmp .Eq) (.cons (.prim .ix (.cons (.var 0) (.cons (.lit (.int 0)) .nil))) (.cons (.lit (.str "row")) .nil))) (.tup (.cons (.lit (.str "row")) (.cons (.call "anew" 14 (.cons (.prim .ix (.cons (.var 0) (.cons (.lit (.int 1)) .nil))) (.cons (.var 1) .nil))) .nil))) (.var 0)))
    .nil))
def f14 : FDef := ⟨("anew", none), "anew", "anew", top 11, ["kind", "told"], ["kind", "told"], ⟨2, 2, b14⟩⟩
/-- _law_bag(script): 0 script, 1 cell -/
def b15 : ISs := (.cons (.ret (.cell (.disp (.cons (.lit (.int 0)) (.cons (.lit (.int 1234567891)) (.cons (.lit (.int 0)) (.cons (.frz (.comp (.nm 1) [("cell", 1)] (.it (.slice (.var 0) .no (.som (.lit (.int 63))))) .no (.prim .abs (.cons (.var 1) .nil)))) .nil)))))))
    .nil)
def f15 : FDef := ⟨("_law_bag", none), "_law_bag", "_law_bag", top 13, ["script"], ["script", "cell"], ⟨1, 2, b15⟩⟩
/-- _law_take(bag, many): 0 bag, 1 many, 2 cell, 3 stirred, 4 value, 5 begin, 6 second -/
def b16 : ISs := (.cons (.ifs (.prim (.cmp .Eq) (.cons (.prim .ix (.cons (.var 0) (.cons (.lit (.int 0)) .nil))) (.cons (.lit (.int 0)) .nil)))
    (.cons (.set 2 (.prim .ix (.cons (.prim (.bin .Add) (.cons (.slice (.prim .ix (.cons (.var 0) (.cons (.lit (.int 3)) .nil))) (.som (.prim .ix (.cons (.var 0) (.cons (.lit (.int 2)) .nil)))) .no) (.cons (.frz (.disp (.cons (.lit (.int 0)) .nil))) .nil))) (.cons (.lit (.int 0)) .nil))))
    (.cons (.augIx .Add (.var 0) (.lit (.int 2)) (.lit (.int 1)))
    (.cons (.ifs (.prim (.cmp .GtE) (.cons (.var 2) (.cons (.prim (.bin .Pow) (.cons (.lit (.int 10)) (.cons (.lit (.int 18)) .nil))) .nil)))
    (.cons (.setIx (.var 0) (.lit (.int 0)) (.var 2))
    .nil)
    .nil)
    (.cons (.set 3 (.prim (.bin .Add) (.cons (.prim (.bin .Add) (.cons (.prim (.bin .Mult) (.cons (.prim .ix (.cons (.var 0) (.cons (.lit (.int 1)) .nil))) (.cons (.lit (.int 48271)) .nil))) (.cons (.prim (.bin .Mod) (.cons (.prim .int (.cons (.var 2) .nil)) (.cons (.lit (.int 2147483647)) .nil))) .nil))) (.cons (.prim (.bin .Mult) (.cons (.lit (.int 7919)) (.cons (.prim .ix (.cons (.var 0) (.cons (.lit (.int 2)) .nil))) .nil))) .nil))))
    (.cons (.setIx (.var 0) (.lit (.int 1)) (.prim (.bin .Mod) (.cons (.prim .int (.cons (.var 3) .nil)) (.cons (.lit (.int 2147483647)) .nil))))
    .nil)))))
    .nil)
    (.cons (.ifs (.prim (.cmp .Gt) (.cons (.prim .ix (.cons (.var 0) (.cons (.lit (.int 0)) .nil))) (.cons (.lit (.int 0)) .nil)))
    (.cons (.set 4 (.prim (.bin .Mod) (.cons (.prim .int (.cons (.prim .ix (.cons (.var 0) (.cons (.lit (.int 0)) .nil))) .nil)) (.cons (.var 1) .nil))))
    (.cons (.setIx (.var 0) (.lit (.int 0)) (.prim (.bin .FloorDiv) (.cons (.prim .int (.cons (.prim .ix (.cons (.var 0) (.cons (.lit (.int 0)) .nil))) .nil)) (.cons (.var 1) .nil))))
    (.cons (.ret (.var 4))
    .nil)))
    .nil)
    (.cons (.set 5 (.prim (.bin .Mod) (.cons (.prim .int (.cons (.prim (.bin .Mult) (.cons (.prim (.bin .Add) (.cons (.prim .ix (.cons (.var 0) (.cons (.lit (.int 1)) .nil))) (.cons (.lit (.int 1)) .nil))) (.cons (.lit (.int 39373)) .nil))) .nil)) (.cons (.lit (.int 1000000007)) .nil))))
    (.cons (.set 6 (.prim (.bin .Mod) (.cons (.prim .int (.cons (.prim (.bin .Mult) (.cons (.prim (.bin .Mod) (.cons (.prim .int (.cons (.prim (.bin .Mult) (.cons (.var 5) (.cons (.var 5) .nil))) .nil)) (.cons (.lit (.int 998244353)) .nil))) (.cons (.lit (.int 30011)) .nil))) .nil)) (.cons (.lit (.int 998244353)) .nil))))
    (.cons (.ret (.prim (.bin .Mod) (.cons (.prim .int (.cons (.prim (.bin .FloorDiv) (.cons (.var 6) (.cons (.lit (.int 7)) .nil))) .nil)) (.cons (.var 1) .nil))))
    .nil)))))
def f16 : FDef := ⟨("_law_take", none), "_law_take", "_law_take", top 14, ["bag", "many"], ["bag", "many", "cell", "stirred", "value", "begin", "second"], ⟨2, 7, b16⟩⟩
/-- _law_some(bag, things): 0 bag, 1 things -/
def b17 : ISs := (.cons (.ret (.prim .ix (.cons (.var 1) (.cons (.call "_law_take" 16 (.cons (.var 0) (.cons (.prim .len (.cons (.var 1) .nil)) .nil))) .nil))))
    .nil)
def f17 : FDef := ⟨("_law_some", none), "_law_some", "_law_some", top 15, ["bag", "things"], ["bag", "things"], ⟨2, 2, b17⟩⟩
/-- _law_alike(found, due): 0 found, 1 due -/
def b18 : ISs := (.cons (.ret (.andd (.prim (.cmp .Eq) (.cons (.prim .repr (.cons (.var 0) .nil)) (.cons (.prim .repr (.cons (.var 1) .nil)) .nil))) (.prim (.cmp .Eq) (.cons (.var 0) (.cons (.var 1) .nil)))))
    .nil)
def f18 : FDef := ⟨("_law_alike", none), "_law_alike", "_law_alike", top 16, ["found", "due"], ["found", "due"], ⟨2, 2, b18⟩⟩
/-- _law_found(links, kind): 0 links, 1 kind, 2 lap -/
def b19 : ISs := (.cons (.fors (.nm 2) (.range1 (.lit (.int 200000)))
    (.cons (.ifs (.andd (.prim .isi (.cons (.var 1) (.cons (.glob "tuple" (.ty "tuple")) .nil))) (.andd (.prim (.cmp .Eq) (.cons (.prim .ix (.cons (.var 1) (.cons (.lit (.int 0)) .nil))) (.cons (.lit (.str "some")) .nil))) (.dhas false (.prim .ix (.cons (.var 1) (.cons (.lit (.int 1)) .nil))) (.var 0))))
    (.cons (.set 1 (.dget (.var 0) (.prim .ix (.cons (.var 1) (.cons (.lit (.int 1)) .nil)))))
    .nil)
    (.cons .brk
    .nil))
    .nil))
    (.cons (.ret (.cond (.andd (.prim .isi (.cons (.var 1) (.cons (.glob "tuple" (.ty "tuple")) .nil))) (.prim (.cmp .Eq) (.cons (.prim .ix (.cons (.var 1) (.cons (.lit (.int 0)) .nil))) (.cons (.lit (.str "row")) .nil)))) (.tup (.cons (.lit (.str "row")) (.cons (.call "_law_found" 19 (.cons (.var 0) (.cons (.prim .ix (.cons (.var 1) (.cons (.lit (.int 1)) .nil))) .nil))) .nil))) (.var 1)))
    .nil))
def f19 : FDef := ⟨("_law_found", none), "_law_found", "_law_found", top 17, ["links", "kind"], ["links", "kind", "lap"], ⟨2, 3, b19⟩⟩
/-- _law_unify(net, one, other): 0 net, 1 one, 2 other, 3 a, 4 b, 5 limit -/
def b20 : ISs := (.cons (.par 1 2 (.v (.call "_law_found" 19 (.cons (.prim .ix (.cons (.var 0) (.cons (.lit (.int 0)) .nil))) (.cons (.var 1) .nil)))) (.v (.call "_law_found" 19 (.cons (.prim .ix (.cons (.var 0) (.cons (.lit (.int 0)) .nil))) (.cons (.var 2) .nil)))))
    (.cons (.ifs (.prim (.cmp .Eq) (.cons (.var 1) (.cons (.var 2) .nil)))
    (.cons (.ret (.lit (.bl true)))
    .nil)
    .nil)
    (.cons (.fors (.tp (.cons (.nm 3) (.cons (.nm 4) .nil))) (.it (.tup (.cons (.tup (.cons (.var 1) (.cons (.var 2) .nil))) (.cons (.tup (.cons (.var 2) (.cons (.var 1) .nil))) .nil))))
    (.cons (.ifs (.andd (.prim .isi (.cons (.var 3) (.cons (.glob "tuple" (.ty "tuple")) .nil))) (.prim (.cmp .Eq) (.cons (.prim .ix (.cons (.var 3) (.cons (.lit (.int 0)) .nil))) (.cons (.lit (.str "some")) .nil))))
    (.cons (.ifs (.call "_law_stands_in" 21 (.cons (.var 3) (.cons (.var 4) .nil)))
    (.cons (.ret (.lit (.bl false)))
    .nil)
    .nil)
    (.cons (.set 5 (.dgetD (.prim .ix (.cons (.var 0) (.cons (.lit (.int 1)) .nil))) (.prim .ix (.cons (.var 3) (.cons (.lit (.int 1)) .nil))) (.lit (.str "any"))))
    (.cons (.setKy (.prim .ix (.cons (.var 0) (.cons (.lit (.int 0)) .nil))) (.prim .ix (.cons (.var 3) (.cons (.lit (.int 1)) .nil))) (.var 4))
    (.cons (.ret (.call "_law_limit" 22 (.cons (.var 0) (.cons (.var 4) (.cons (.var 5) .nil)))))
    .nil))))
    .nil)
    .nil))
    (.cons (.ifs (.andd (.prim .isi (.cons (.var 1) (.cons (.glob "tuple" (.ty "tuple")) .nil))) (.prim .isi (.cons (.var 2) (.cons (.glob "tuple" (.ty "tuple")) .nil))))
    (.cons (.ret (.call "_law_unify" 20 (.cons (.var 0) (.cons (.prim .ix (.cons (.var 1) (.cons (.lit (.int 1)) .nil))) (.cons (.prim .ix (.cons (.var 2) (.cons (.lit (.int 1)) .nil))) .nil)))))
    .nil)
    .nil)
    (.cons (.ret (.lit (.bl false)))
    .nil)))))
def f20 : FDef := ⟨("_law_unify", none), "_law_unify", "_law_unify", top 18, ["net", "one", "other"], ["net", "one", "other", "a", "b", "limit"], ⟨3, 6, b20⟩⟩
/-- _law_stands_in(a, b): 0 a, 1 b -/
def b21 : ISs := (.cons (.ret (.andd (.prim .isi (.cons (.var 1) (.cons (.glob "tuple" (.ty "tuple")) .nil))) (.andd (.prim (.cmp .Eq) (.cons (.prim .ix (.cons (.var 1) (.cons (.lit (.int 0)) .nil))) (.cons (.lit (.str "row")) .nil))) (.orr (.prim (.cmp .Eq) (.cons (.prim .ix (.cons (.var 1) (.cons (.lit (.int 1)) .nil))) (.cons (.var 0) .nil))) (.call "_law_stands_in" 21 (.cons (.var 0) (.cons (.prim .ix (.cons (.var 1) (.cons (.lit (.int 1)) .nil))) .nil)))))))
    .nil)
def f21 : FDef := ⟨("_law_stands_in", none), "_law_stands_in", "_law_stands_in", top 19, ["a", "b"], ["a", "b"], ⟨2, 2, b21⟩⟩
/-- _law_limit(net, kind, limit): 0 net, 1 kind, 2 limit, 3 ranks -/
def b22 : ISs := (.cons (.set 1 (.call "_law_found" 19 (.cons (.prim .ix (.cons (.var 0) (.cons (.lit (.int 0)) .nil))) (.cons (.var 1) .nil))))
    (.cons (.ifs (.andd (.prim .isi (.cons (.var 1) (.cons (.glob "tuple" (.ty "tuple")) .nil))) (.prim (.cmp .Eq) (.cons (.prim .ix (.cons (.var 1) (.cons (.lit (.int 0)) .nil))) (.cons (.lit (.str "some")) .nil))))
    (.cons (.setTup 3 (.cons (.lit (.str "any")) (.cons (.lit (.str "plain")) (.cons (.lit (.str "ordered")) .nil))))
    (.cons (.setKy (.prim .ix (.cons (.var 0) (.cons (.lit (.int 1)) .nil))) (.prim .ix (.cons (.var 1) (.cons (.lit (.int 1)) .nil))) (.prim .ix (.cons (.own 3) (.cons (.prim .max (.cons (.tindex 3 (.var 2)) (.cons (.tindex 3 (.dgetD (.prim .ix (.cons (.var 0) (.cons (.lit (.int 1)) .nil))) (.prim .ix (.cons (.var 1) (.cons (.lit (.int 1)) .nil))) (.lit (.str "any")))) .nil))) .nil))))
    (.cons (.ret (.lit (.bl true)))
    .nil)))
    .nil)
    (.cons (.ifs (.prim (.cmp .Eq) (.cons (.var 2) (.cons (.lit (.str "any")) .nil)))
    (.cons (.ret (.lit (.bl true)))
    .nil)
    .nil)
    (.cons (.ret (.andd (.nott (.prim .isi (.cons (.var 1) (.cons (.glob "tuple" (.ty "tuple")) .nil)))) (.orr (.prim (.cmp .Eq) (.cons (.var 2) (.cons (.lit (.str "plain")) .nil))) (.prim (.cmp .In) (.cons (.var 1) (.cons (.tup (.cons (.lit (.str "number")) (.cons (.lit (.str "text")) .nil))) .nil))))))
    .nil))))
def f22 : FDef := ⟨("_law_limit", none), "_law_limit", "_law_limit", top 20, ["net", "kind", "limit"], ["net", "kind", "limit", "ranks"], ⟨3, 4, b22⟩⟩
/-- _law_fresh(net, limit): 0 net, 1 limit -/
def b23 : ISs := (.cons (.augIx .Add (.var 0) (.lit (.int 2)) (.lit (.int 1)))
    (.cons (.setKy (.prim .ix (.cons (.var 0) (.cons (.lit (.int 1)) .nil))) (.prim .ix (.cons (.var 0) (.cons (.lit (.int 2)) .nil))) (.var 1))
    (.cons (.ret (.tup (.cons (.lit (.str "some")) (.cons (.prim .ix (.cons (.var 0) (.cons (.lit (.int 2)) .nil))) .nil))))
    .nil)))
def f23 : FDef := ⟨("_law_fresh", none), "_law_fresh", "_law_fresh", top 21, ["net", "limit"], ["net", "limit"], ⟨2, 2, b23⟩⟩
/-- _law_is_kind(thing): 0 thing -/
def b24 : ISs := (.cons (.ifs (.prim .isi (.cons (.var 0) (.cons (.glob "tuple" (.ty "tuple")) .nil)))
    (.cons (.ret (.andd (.prim (.cmp .Eq) (.cons (.prim .len (.cons (.var 0) .nil)) (.cons (.lit (.int 2)) .nil))) (.andd (.prim .isi (.cons (.prim .ix (.cons (.var 0) (.cons (.lit (.int 0)) .nil))) (.cons (.glob "str" (.ty "str")) .nil))) (.andd (.prim (.cmp .Eq) (.cons (.prim .ix (.cons (.var 0) (.cons (.lit (.int 0)) .nil))) (.cons (.lit (.str "row")) .nil))) (.andd (.prim .isi (.cons (.prim .ix (.cons (.var 0) (.cons (.lit (.int 1)) .nil))) (.cons (.glob "str" (.ty "str")) .nil))) (.prim (.cmp .In) (.cons (.prim .ix (.cons (.var 0) (.cons (.lit (.int 1)) .nil))) (.cons (.tup (.cons (.lit (.str "number")) (.cons (.lit (.str "text")) (.cons (.lit (.str "truth")) .nil)))) .nil))))))))
    .nil)
    .nil)
    (.cons (.ret (.andd (.prim .isi (.cons (.var 0) (.cons (.glob "str" (.ty "str")) .nil))) (.prim (.cmp .In) (.cons (.var 0) (.cons (.tup (.cons (.lit (.str "number")) (.cons (.lit (.str "text")) (.cons (.lit (.str "truth")) .nil)))) .nil)))))
    .nil))
def f24 : FDef := ⟨("_law_is_kind", none), "_law_is_kind", "_law_is_kind", top 22, ["thing"], ["thing"], ⟨1, 1, b24⟩⟩
/-- _law_numbered(kinds): 0 kinds, 1 met, 2 found, 3 kind -/
def b25 : ISs := (.cons (.set 1 .celld)
    (.cons (.setOwn 2 (.disp .nil))
    (.cons (.fors (.nm 3) (.it (.var 0))
    (.cons (.appOwn 2 (.call "_law_renamed" 26 (.cons (.var 3) (.cons (.var 1) .nil))))
    .nil))
    (.cons (.ret (.prim .tuple (.cons (.own 2) .nil)))
    .nil))))
def f25 : FDef := ⟨("_law_numbered", none), "_law_numbered", "_law_numbered", top 23, ["kinds"], ["kinds", "met", "found", "kind"], ⟨1, 4, b25⟩⟩
/-- _law_renamed(kind, met): 0 kind, 1 met -/
def b26 : ISs := (.cons (.ifs (.andd (.prim .isi (.cons (.var 0) (.cons (.glob "tuple" (.ty "tuple")) .nil))) (.prim (.cmp .Eq) (.cons (.prim .ix (.cons (.var 0) (.cons (.lit (.int 0)) .nil))) (.cons (.lit (.str "row")) .nil))))
    (.cons (.ret (.tup (.cons (.lit (.str "row")) (.cons (.call "_law_renamed" 26 (.cons (.prim .ix (.cons (.var 0) (.cons (.lit (.int 1)) .nil))) (.cons (.var 1) .nil))) .nil))))
    .nil)
    .nil)
    (.cons (.ifs (.prim .isi (.cons (.var 0) (.cons (.glob "tuple" (.ty "tuple")) .nil)))
    (.cons (.setKy (.var 1) (.prim .ix (.cons (.var 0) (.cons (.lit (.int 1)) .nil))) (.dgetD (.var 1) (.prim .ix (.cons (.var 0) (.cons (.lit (.int 1)) .nil))) (.dlen (.var 1))))
    (.cons (.ret (.tup (.cons (.lit (.str "some")) (.cons (.dget (.var 1) (.prim .ix (.cons (.var 0) (.cons (.lit (.int 1)) .nil)))) .nil))))
    .nil))
    .nil)
    (.cons (.ret (.var 0))
    .nil)))
def f26 : FDef := ⟨("_law_renamed", none), "_law_renamed", "_law_renamed", top 24, ["kind", "met"], ["kind", "met"], ⟨2, 2, b26⟩⟩
/-- law(script): 0 script, 1 bag, 2 lap, 3 solver, 4 net, 5 mine, 6 its, 7 step, 8 way, 9 limit, 10 k, 11 truth, 12 made, 13 n, 14 plain, 15 a, 16 b, 17 twin, 18 found, 19 due, 20 thing, 21 lets, 22 kind, 23 word -/
def b27 : ISs := (.cons (.set 1 (.call "_law_bag" 15 (.cons (.var 0) .nil)))
    (.cons (.fors (.nm 2) (.range1 (.lit (.int 8)))
    (.cons (.unp (.tp (.cons (.nm 3) (.cons (.nm 4) (.cons (.nm 5) (.cons (.nm 6) .nil))))) (.tup (.cons (.make "Solver" 0 4 .nil) (.cons (.cell (.disp (.cons .celld (.cons .celld (.cons (.lit (.int 0)) .nil))))) (.cons (.cell (.disp .nil)) (.cons (.cell (.disp .nil)) .nil))))))
    (.cons (.fors (.nm 7) (.range1 (.lit (.int 14)))
    (.cons (.set 8 (.cond (.prim (.cmp .NotEq) (.cons (.var 5) (.cons (.frz (.disp .nil)) .nil))) (.call "_law_take" 16 (.cons (.var 1) (.cons (.lit (.int 6)) .nil))) (.lit (.int 0))))
    (.cons (.ifs (.prim (.cmp .Lt) (.cons (.var 8) (.cons (.lit (.int 2)) .nil)))
    (.cons (.set 9 (.call "_law_some" 17 (.cons (.var 1) (.cons (.frz (.disp (.cons (.lit (.str "any")) (.cons (.lit (.str "any")) (.cons (.lit (.str "plain")) (.cons (.lit (.str "ordered")) .nil)))))) .nil))))
    (.cons (.app (.var 5) (.call "_law_fresh" 23 (.cons (.var 4) (.cons (.var 9) .nil))))
    (.cons (.app (.var 6) (.mcall 0 "fresh" 5 (.var 3) (.cons (.var 9) .nil)))
    .nil)))
    (.cons (.ifs (.prim (.cmp .Eq) (.cons (.var 8) (.cons (.lit (.int 2)) .nil)))
    (.cons (.set 10 (.call "_law_take" 16 (.cons (.var 1) (.cons (.prim .len (.cons (.var 5) .nil)) .nil))))
    (.cons (.set 11 (.call "_law_limit" 22 (.cons (.var 4) (.cons (.prim .ix (.cons (.var 5) (.cons (.var 10) .nil))) (.cons (.lit (.str "plain")) .nil)))))
    (.cons (.set 12 (.mcall 0 "row_of" 7 (.var 3) (.cons (.prim .ix (.cons (.var 6) (.cons (.var 10) .nil))) .nil)))
    (.cons (.ifs (.prim (.cmp .Eq) (.cons (.prim (.cmp .Is) (.cons (.var 12) (.cons (.lit .non) .nil))) (.cons (.var 11) .nil)))
    (.cons (.ret (.lit (.bl false)))
    .nil)
    .nil)
    (.cons (.ifs (.nott (.var 11))
    (.cons .brk
    .nil)
    .nil)
    (.cons (.app (.var 5) (.tup (.cons (.lit (.str "row")) (.cons (.prim .ix (.cons (.var 5) (.cons (.var 10) .nil))) .nil))))
    (.cons (.app (.var 6) (.var 12))
    .nil)))))))
    (.cons (.ifs (.prim (.cmp .Lt) (.cons (.var 8) (.cons (.lit (.int 5)) .nil)))
    (.cons (.par 10 13 (.v (.call "_law_take" 16 (.cons (.var 1) (.cons (.prim .len (.cons (.var 5) .nil)) .nil)))) (.v (.call "_law_take" 16 (.cons (.var 1) (.cons (.prim .len (.cons (.var 5) .nil)) .nil)))))
    (.cons (.set 14 (.call "_law_some" 17 (.cons (.var 1) (.cons (.frz (.disp (.cons (.lit .non) (.cons (.lit .non) (.cons (.lit (.str "number")) (.cons (.lit (.str "text")) (.cons (.lit (.str "truth")) .nil))))))) .nil))))
    (.cons (.unp (.tp (.cons (.nm 15) (.cons (.nm 16) .nil))) (.cond (.prim (.cmp .Is) (.cons (.var 14) (.cons (.lit .non) .nil))) (.tup (.cons (.prim .ix (.cons (.var 5) (.cons (.var 13) .nil))) (.cons (.prim .ix (.cons (.var 6) (.cons (.var 13) .nil))) .nil))) (.tup (.cons (.var 14) (.cons (.var 14) .nil)))))
    (.cons (.set 11 (.call "_law_unify" 20 (.cons (.var 4) (.cons (.prim .ix (.cons (.var 5) (.cons (.var 10) .nil))) (.cons (.var 15) .nil)))))
    (.cons (.ifs (.nott (.call "_law_alike" 18 (.cons (.mcall 0 "unify" 10 (.var 3) (.cons (.prim .ix (.cons (.var 6) (.cons (.var 10) .nil))) (.cons (.var 16) .nil))) (.cons (.var 11) .nil))))
    (.cons (.ret (.lit (.bl false)))
    .nil)
    .nil)
    (.cons (.ifs (.nott (.var 11))
    (.cons .brk
    .nil)
    .nil)
    .nil))))))
    (.cons (.par 10 9 (.v (.call "_law_take" 16 (.cons (.var 1) (.cons (.prim .len (.cons (.var 5) .nil)) .nil)))) (.v (.call "_law_some" 17 (.cons (.var 1) (.cons (.frz (.disp (.cons (.lit (.str "any")) (.cons (.lit (.str "plain")) (.cons (.lit (.str "ordered")) .nil))))) .nil)))))
    (.cons (.set 11 (.call "_law_limit" 22 (.cons (.var 4) (.cons (.prim .ix (.cons (.var 5) (.cons (.var 10) .nil))) (.cons (.var 9) .nil)))))
    (.cons (.ifs (.nott (.call "_law_alike" 18 (.cons (.mcall 0 "limit" 8 (.var 3) (.cons (.prim .ix (.cons (.var 6) (.cons (.var 10) .nil))) (.cons (.var 9) .nil))) (.cons (.var 11) .nil))))
    (.cons (.ret (.lit (.bl false)))
    .nil)
    .nil)
    (.cons (.ifs (.nott (.var 11))
    (.cons .brk
    .nil)
    .nil)
    .nil)))))
    .nil))
    .nil))
    (.cons (.set 17 (.mcall 0 "twin" 12 (.var 3) .nil))
    (.cons (.par 18 19 (.v (.frz (.comp (.nm 22) [("kind", 22)] (.cel (.var 6)) .no (.mcall 0 "led" 11 (.var 3) (.cons (.var 22) .nil))))) (.v (.frz (.comp (.nm 22) [("kind", 22)] (.cel (.var 5)) .no (.call "_law_found" 19 (.cons (.prim .ix (.cons (.var 4) (.cons (.lit (.int 0)) .nil))) (.cons (.var 22) .nil)))))))
    (.cons (.ifs (.nott (.call "_law_alike" 18 (.cons (.frz (.disp (.cons (.call "numbered" 13 (.cons (.prim .tuple (.cons (.var 18) .nil)) .nil)) (.cons (.frz (.comp (.nm 22) [("kind", 22)] (.cel (.var 6)) .no (.mcall 0 "led" 11 (.var 17) (.cons (.var 22) .nil)))) .nil)))) (.cons (.frz (.disp (.cons (.call "_law_numbered" 25 (.cons (.var 19) .nil)) (.cons (.var 18) .nil)))) .nil))))
    (.cons (.ret (.lit (.bl false)))
    .nil)
    .nil)
    (.cons (.ifs (.prim (.cmp .NotEq) (.cons (.var 5) (.cons (.frz (.disp .nil)) .nil)))
    (.cons (.expr (.mcall 0 "unify" 10 (.var 17) (.cons (.prim .ix (.cons (.var 6) (.cons (.lit (.int 0)) .nil))) (.cons (.lit (.str "truth")) .nil))))
    (.cons (.ifs (.prim (.cmp .NotEq) (.cons (.frz (.comp (.nm 22) [("kind", 22)] (.cel (.var 6)) .no (.mcall 0 "led" 11 (.var 3) (.cons (.var 22) .nil)))) (.cons (.var 18) .nil)))
    (.cons (.ret (.lit (.bl false)))
    .nil)
    .nil)
    .nil))
    .nil)
    .nil)))))))
    .nil)))
    (.cons (.fors (.nm 20) (.it (.frz (.disp (.cons (.lit .non) (.cons (.lit (.str "number")) (.cons (.lit (.str "text")) (.cons (.lit (.str "truth")) (.cons (.lit (.str "row")) (.cons (.tup (.cons (.lit (.str "row")) (.cons (.lit (.str "number")) .nil))) (.cons (.tup (.cons (.lit (.str "row")) (.cons (.tup (.cons (.lit (.str "row")) (.cons (.lit (.str "text")) .nil))) .nil))) (.cons (.tup (.cons (.lit (.str "some")) (.cons (.lit (.int 0)) .nil))) (.cons (.tup (.cons (.lit (.str "row")) (.cons (.tup (.cons (.lit (.str "some")) (.cons (.lit (.int 0)) .nil))) .nil))) (.cons (.tup (.cons (.lit (.str "row")) .nil)) (.cons (.frz (.disp (.cons (.lit (.str "row")) (.cons (.lit (.str "number")) .nil)))) (.cons (.lit (.int 1)) (.cons (.tup .nil) .nil))))))))))))))))
    (.cons (.ifs (.nott (.call "_law_alike" 18 (.cons (.call "is_kind" 1 (.cons (.var 20) .nil)) (.cons (.call "_law_is_kind" 24 (.cons (.var 20) .nil)) .nil))))
    (.cons (.ret (.lit (.bl false)))
    .nil)
    .nil)
    (.cons (.ifs (.call "_law_is_kind" 24 (.cons (.var 20) .nil))
    (.cons (.set 21 (.frz (.disp (.cons (.lit (.bl true)) (.cons (.nott (.prim .isi (.cons (.var 20) (.cons (.glob "tuple" (.ty "tuple")) .nil)))) (.cons (.prim (.cmp .In) (.cons (.var 20) (.cons (.tup (.cons (.lit (.str "number")) (.cons (.lit (.str "text")) .nil))) .nil))) .nil))))))
    (.cons (.ifs (.nott (.call "_law_alike" 18 (.cons (.frz (.comp (.nm 23) [("word", 23)] (.it (.tup (.cons (.lit (.str "any")) (.cons (.lit (.str "plain")) (.cons (.lit (.str "ordered")) .nil))))) .no (.call "is_let" 2 (.cons (.var 20) (.cons (.var 23) .nil))))) (.cons (.var 21) .nil))))
    (.cons (.ret (.lit (.bl false)))
    .nil)
    .nil)
    .nil))
    .nil)
    .nil)))
    (.cons (.ret (.lit (.bl true)))
    .nil))))
def f27 : FDef := ⟨("law", none), "law", "law", top 25, ["script"], ["script", "bag", "lap", "solver", "net", "mine", "its", "step", "way", "limit", "k", "truth", "made", "n", "plain", "a", "b", "twin", "found", "due", "thing", "lets", "kind", "word"], ⟨1, 24, b27⟩⟩
def tab : Tab := ⟨[gp "ORDERED" (.con c_ORDERED), gp "PLAIN" (.con c_PLAIN), gp "STRENGTH" (.dct c_STRENGTH), gp "Solver" (.cls 0), gp "_law_alike" (.fn 18), gp "_law_bag" (.fn 15), gp "_law_found" (.fn 19), gp "_law_fresh" (.fn 23), gp "_law_is_kind" (.fn 24), gp "_law_limit" (.fn 22), gp "_law_numbered" (.fn 25), gp "_law_renamed" (.fn 26), gp "_law_some" (.fn 17), gp "_law_stands_in" (.fn 21), gp "_law_take" (.fn 16), gp "_law_unify" (.fn 20), gp "abs" .no, gp "anew" (.fn 14), gp "dict" .no, gp "int" .no, gp "is_kind" (.fn 1), gp "is_let" (.fn 2), gp "is_sized" (.fn 0), gp "is_some" (.fn 3), gp "isinstance" .no, gp "law" (.fn 27), gp "len" .no, gp "list" .no, gp "max" .no, gp "numbered" (.fn 13), gp "range" .no, gp "repr" .no, gp "str" .no, gp "tuple" .no], [⟨some 4, [("fresh", 5), ("found", 6), ("row_of", 7), ("limit", 8), ("tell", 9), ("unify", 10), ("led", 11), ("twin", 12)], ["limits", "told"]⟩]⟩
def prg : Prg := ⟨tab, [f0, f1, f2, f3, f4, f5, f6, f7, f8, f9, f10, f11, f12, f13, f14, f15, f16, f17, f18, f19, f20, f21, f22, f23, f24, f25, f26, f27], ["Solver"]⟩
theorem at_ok : prg.atB = true := by decide +kernel
theorem ok_ok : prg.okB = true := by decide +kernel
theorem bnd_ok : AllB prg.fs := ⟨fun _ _ _ _ _ _ us hl => match us, hl with | [_, _], _ => rfl, fun _ _ _ _ _ _ us hl => match us, hl with | [_], _ => rfl, fun _ _ _ _ _ _ us hl => match us, hl with | [_, _], _ => rfl, fun _ _ _ _ _ _ us hl => match us, hl with | [_], _ => rfl, fun _ _ _ _ _ _ us hl => match us, hl with | [_], _ => rfl, fun _ _ _ _ _ _ us hl => match us, hl with | [_, _], _ => rfl, fun _ _ _ _ _ _ us hl => match us, hl with | [_, _], _ => rfl, fun _ _ _ _ _ _ us hl => match us, hl with | [_, _], _ => rfl, fun _ _ _ _ _ _ us hl => match us, hl with | [_, _, _], _ => rfl, fun _ _ _ _ _ _ us hl => match us, hl with | [_, _, _], _ => rfl, fun _ _ _ _ _ _ us hl => match us, hl with | [_, _, _], _ => rfl, fun _ _ _ _ _ _ us hl => match us, hl with | [_, _], _ => rfl, fun _ _ _ _ _ _ us hl => match us, hl with | [_], _ => rfl, fun _ _ _ _ _ _ us hl => match us, hl with | [_], _ => rfl, fun _ _ _ _ _ _ us hl => match us, hl with | [_, _], _ => rfl, fun _ _ _ _ _ _ us hl => match us, hl with | [_], _ => rfl, fun _ _ _ _ _ _ us hl => match us, hl with | [_, _], _ => rfl, fun _ _ _ _ _ _ us hl => match us, hl with | [_, _], _ => rfl, fun _ _ _ _ _ _ us hl => match us, hl with | [_, _], _ => rfl, fun _ _ _ _ _ _ us hl => match us, hl with | [_, _], _ => rfl, fun _ _ _ _ _ _ us hl => match us, hl with | [_, _, _], _ => rfl, fun _ _ _ _ _ _ us hl => match us, hl with | [_, _], _ => rfl, fun _ _ _ _ _ _ us hl => match us, hl with | [_, _, _], _ => rfl, fun _ _ _ _ _ _ us hl => match us, hl with | [_, _], _ => rfl, fun _ _ _ _ _ _ us hl => match us, hl with | [_], _ => rfl, fun _ _ _ _ _ _ us hl => match us, hl with | [_], _ => rfl, fun _ _ _ _ _ _ us hl => match us, hl with | [_, _], _ => rfl, fun _ _ _ _ _ _ us hl => match us, hl with | [_], _ => rfl, trivial⟩
end FH.K06
end
section
namespace FH.K06
open PySem PySem.Spec PyProof.Rows L2
inductive Bs | nu | te | tr
  deriving DecidableEq
def Bs.s : Bs → Str
  | .nu => "number" | .te => "text" | .tr => "truth"
inductive Wd | any | plain | ord
  deriving DecidableEq
def Wd.s : Wd → Str
  | .any => "any" | .plain => "plain" | .ord => "ordered"
def Wd.r : Wd → Nat
  | .any => 0 | .plain => 1 | .ord => 2
/-- a kind: plain, left open, a row of these -/
inductive Kd | b (s : Bs) | v (i : Nat) | rb (s : Bs) | rv (i : Nat)
  deriving DecidableEq
def some_ (i : Int) : D := .tup [.str "some", .int i]
def row_ (d : D) : D := .tup [.str "row", d]
def Kd.e (o : Int) : Kd → D
  | .b s => .str s.s
  | .v i => some_ ((i : Int) + o)
  | .rb s => row_ (.str s.s)
  | .rv i => row_ (some_ ((i : Int) + o))
def Kd.isV : Kd → Bool
  | .v _ => true | _ => false
abbrev fs := fnsOf prg.fs
theorem by_same {o : Option D} {d : D} (h : (match o with | some e => e.same d | none => false) = true) : o = some d := by
  split at h
  · rw [same_ok h]
  · cases h
theorem v_ord {μ : Store} : viewD μ c_ORDERED = c_ORDERED := rfl
theorem q1 : (("some" : Str) == "row") = false := by decide +kernel
theorem q2 : (("row" : Str) == "some") = false := by decide +kernel
theorem q3 : (("told" : Str) == "limits") = false := by decide +kernel
theorem q4 : (("limits" : Str) == "told") = false := by decide +kernel
theorem bs_ix {s : Bs} : ∃ z : Str, ixD (.str s.s) (.int 0) = some (.str z) ∧ (z == ("some" : Str)) = false ∧ (z == ("row" : Str)) = false := by
  cases s
  · exact ⟨"n", by_same (by decide +kernel), by decide +kernel, by decide +kernel⟩
  · exact ⟨"t", by_same (by decide +kernel), by decide +kernel, by decide +kernel⟩
  · exact ⟨"t", by_same (by decide +kernel), by decide +kernel, by decide +kernel⟩
theorem g0 : fs[0]? = some ⟨2, 2, b0⟩ := rfl
theorem g2 : fs[2]? = some ⟨2, 2, b2⟩ := rfl
theorem g3 : fs[3]? = some ⟨1, 1, b3⟩ := rfl
theorem g19 : fs[19]? = some ⟨2, 3, b19⟩ := rfl
theorem g6 : fs[6]? = some ⟨2, 2, b6⟩ := rfl
theorem is_some {k : Nat} {o : Int} {K : Kd} {μ : Store} : run fs (k + 1) 3 [K.e o] μ = some (.bl K.isV, μ) := by
  rw [run_eq g3 rfl]
  cases K with
  | b s =>
    obtain ⟨z, h1, h2, _⟩ := bs_ix (s := s)
    simp [start0, b3, evE, evEs, evO, evC, evF, evSrc, evIn, evS, evSs, Option.bind_some, Option.map_some, Option.bind_none, Option.map_none, List.map_cons, List.map_nil, slot_c0, slot_cs, own_c0, own_cs, ownv_c0, ownv_cs, ownt_c0, tup_c0, tup_cs, view_int, view_str, view_bl, view_non, view_tup, view_lst, view_ty, view_fn, p_bin, p_neg, p_cmp, p_ix, p_len_tup, p_len_lst, p_abs, p_int, p_intb, p_isi, p_tuple_tup, p_tuple_lst, p_max, p_min, b_add_int, b_sub_int, c_lt, c_le, c_gt, c_ge, c_eq, c_ne, ix_tup, ix_lst, at0, at1, at2, at3, at4, at5, eq_int, eq_str, eq_bl, truD, set_c0, set_cs, setS_c, isi_tuple_tup, isi_tuple_lst, isi_tuple_str, isi_tuple_int, isi_tuple_non, isi_tuple_bl, isi_str_str, isi_str_tup, isi_str_int, isi_str_non, isi_str_lst, isi_str_bl, if_true_, if_false_, Kd.e, h1, h2, retOf, Kd.isV]
  | v i => simp [start0, b3, evE, evEs, evO, evC, evF, evSrc, evIn, evS, evSs, Option.bind_some, Option.map_some, Option.bind_none, Option.map_none, List.map_cons, List.map_nil, slot_c0, slot_cs, own_c0, own_cs, ownv_c0, ownv_cs, ownt_c0, tup_c0, tup_cs, view_int, view_str, view_bl, view_non, view_tup, view_lst, view_ty, view_fn, p_bin, p_neg, p_cmp, p_ix, p_len_tup, p_len_lst, p_abs, p_int, p_intb, p_isi, p_tuple_tup, p_tuple_lst, p_max, p_min, b_add_int, b_sub_int, c_lt, c_le, c_gt, c_ge, c_eq, c_ne, ix_tup, ix_lst, at0, at1, at2, at3, at4, at5, eq_int, eq_str, eq_bl, truD, set_c0, set_cs, setS_c, isi_tuple_tup, isi_tuple_lst, isi_tuple_str, isi_tuple_int, isi_tuple_non, isi_tuple_bl, isi_str_str, isi_str_tup, isi_str_int, isi_str_non, isi_str_lst, isi_str_bl, if_true_, if_false_, Kd.e, some_, retOf, Kd.isV]
  | rb s => simp [start0, b3, evE, evEs, evO, evC, evF, evSrc, evIn, evS, evSs, Option.bind_some, Option.map_some, Option.bind_none, Option.map_none, List.map_cons, List.map_nil, slot_c0, slot_cs, own_c0, own_cs, ownv_c0, ownv_cs, ownt_c0, tup_c0, tup_cs, view_int, view_str, view_bl, view_non, view_tup, view_lst, view_ty, view_fn, p_bin, p_neg, p_cmp, p_ix, p_len_tup, p_len_lst, p_abs, p_int, p_intb, p_isi, p_tuple_tup, p_tuple_lst, p_max, p_min, b_add_int, b_sub_int, c_lt, c_le, c_gt, c_ge, c_eq, c_ne, ix_tup, ix_lst, at0, at1, at2, at3, at4, at5, eq_int, eq_str, eq_bl, truD, set_c0, set_cs, setS_c, isi_tuple_tup, isi_tuple_lst, isi_tuple_str, isi_tuple_int, isi_tuple_non, isi_tuple_bl, isi_str_str, isi_str_tup, isi_str_int, isi_str_non, isi_str_lst, isi_str_bl, if_true_, if_false_, Kd.e, row_, q2, retOf, Kd.isV]
  | rv s => simp [start0, b3, evE, evEs, evO, evC, evF, evSrc, evIn, evS, evSs, Option.bind_some, Option.map_some, Option.bind_none, Option.map_none, List.map_cons, List.map_nil, slot_c0, slot_cs, own_c0, own_cs, ownv_c0, ownv_cs, ownt_c0, tup_c0, tup_cs, view_int, view_str, view_bl, view_non, view_tup, view_lst, view_ty, view_fn, p_bin, p_neg, p_cmp, p_ix, p_len_tup, p_len_lst, p_abs, p_int, p_intb, p_isi, p_tuple_tup, p_tuple_lst, p_max, p_min, b_add_int, b_sub_int, c_lt, c_le, c_gt, c_ge, c_eq, c_ne, ix_tup, ix_lst, at0, at1, at2, at3, at4, at5, eq_int, eq_str, eq_bl, truD, set_c0, set_cs, setS_c, isi_tuple_tup, isi_tuple_lst, isi_tuple_str, isi_tuple_int, isi_tuple_non, isi_tuple_bl, isi_str_str, isi_str_tup, isi_str_int, isi_str_non, isi_str_lst, isi_str_bl, if_true_, if_false_, Kd.e, row_, q2, retOf, Kd.isV]
/-- is_let, by plain data -/
def lets : Kd → Wd → Bool
  | .b s, w => w != .ord || s != .tr
  | .v _, w => w == .any
  | _, w => w == .any
theorem is_let {k : Nat} {o : Int} {K : Kd} {w : Wd} {μ : Store} : run fs (k + 1) 2 [K.e o, .str w.s] μ = some (.bl (lets K w), μ) := by
  rw [run_eq g2 rfl]
  have e1 : (w.s == ("any" : Str)) = (w == .any) := by cases w <;> decide +kernel
  have e2 : (w.s == ("ordered" : Str)) = (w == .ord) := by cases w <;> decide +kernel
  cases K with
  | b s =>
    have e3 : cmpD .In (.str s.s) c_ORDERED = some (.bl (s != .tr)) := by cases s <;> exact by_same (by decide +kernel)
    cases w <;> cases s <;> simp [start0, b2, evE, evEs, evO, evC, evF, evSrc, evIn, evS, evSs, Option.bind_some, Option.map_some, Option.bind_none, Option.map_none, List.map_cons, List.map_nil, slot_c0, slot_cs, own_c0, own_cs, ownv_c0, ownv_cs, ownt_c0, tup_c0, tup_cs, view_int, view_str, view_bl, view_non, view_tup, view_lst, view_ty, view_fn, p_bin, p_neg, p_cmp, p_ix, p_len_tup, p_len_lst, p_abs, p_int, p_intb, p_isi, p_tuple_tup, p_tuple_lst, p_max, p_min, b_add_int, b_sub_int, c_lt, c_le, c_gt, c_ge, c_eq, c_ne, ix_tup, ix_lst, at0, at1, at2, at3, at4, at5, eq_int, eq_str, eq_bl, truD, set_c0, set_cs, setS_c, isi_tuple_tup, isi_tuple_lst, isi_tuple_str, isi_tuple_int, isi_tuple_non, isi_tuple_bl, isi_str_str, isi_str_tup, isi_str_int, isi_str_non, isi_str_lst, isi_str_bl, if_true_, if_false_, Kd.e, e1, e2, e3, v_ord, retOf, lets] <;> rfl
  | v i => simp [start0, b2, evE, evEs, evO, evC, evF, evSrc, evIn, evS, evSs, Option.bind_some, Option.map_some, Option.bind_none, Option.map_none, List.map_cons, List.map_nil, slot_c0, slot_cs, own_c0, own_cs, ownv_c0, ownv_cs, ownt_c0, tup_c0, tup_cs, view_int, view_str, view_bl, view_non, view_tup, view_lst, view_ty, view_fn, p_bin, p_neg, p_cmp, p_ix, p_len_tup, p_len_lst, p_abs, p_int, p_intb, p_isi, p_tuple_tup, p_tuple_lst, p_max, p_min, b_add_int, b_sub_int, c_lt, c_le, c_gt, c_ge, c_eq, c_ne, ix_tup, ix_lst, at0, at1, at2, at3, at4, at5, eq_int, eq_str, eq_bl, truD, set_c0, set_cs, setS_c, isi_tuple_tup, isi_tuple_lst, isi_tuple_str, isi_tuple_int, isi_tuple_non, isi_tuple_bl, isi_str_str, isi_str_tup, isi_str_int, isi_str_non, isi_str_lst, isi_str_bl, if_true_, if_false_, Kd.e, some_, e1, retOf, lets]
  | rb s => simp [start0, b2, evE, evEs, evO, evC, evF, evSrc, evIn, evS, evSs, Option.bind_some, Option.map_some, Option.bind_none, Option.map_none, List.map_cons, List.map_nil, slot_c0, slot_cs, own_c0, own_cs, ownv_c0, ownv_cs, ownt_c0, tup_c0, tup_cs, view_int, view_str, view_bl, view_non, view_tup, view_lst, view_ty, view_fn, p_bin, p_neg, p_cmp, p_ix, p_len_tup, p_len_lst, p_abs, p_int, p_intb, p_isi, p_tuple_tup, p_tuple_lst, p_max, p_min, b_add_int, b_sub_int, c_lt, c_le, c_gt, c_ge, c_eq, c_ne, ix_tup, ix_lst, at0, at1, at2, at3, at4, at5, eq_int, eq_str, eq_bl, truD, set_c0, set_cs, setS_c, isi_tuple_tup, isi_tuple_lst, isi_tuple_str, isi_tuple_int, isi_tuple_non, isi_tuple_bl, isi_str_str, isi_str_tup, isi_str_int, isi_str_non, isi_str_lst, isi_str_bl, if_true_, if_false_, Kd.e, row_, e1, retOf, lets]
  | rv s => simp [start0, b2, evE, evEs, evO, evC, evF, evSrc, evIn, evS, evSs, Option.bind_some, Option.map_some, Option.bind_none, Option.map_none, List.map_cons, List.map_nil, slot_c0, slot_cs, own_c0, own_cs, ownv_c0, ownv_cs, ownt_c0, tup_c0, tup_cs, view_int, view_str, view_bl, view_non, view_tup, view_lst, view_ty, view_fn, p_bin, p_neg, p_cmp, p_ix, p_len_tup, p_len_lst, p_abs, p_int, p_intb, p_isi, p_tuple_tup, p_tuple_lst, p_max, p_min, b_add_int, b_sub_int, c_lt, c_le, c_gt, c_ge, c_eq, c_ne, ix_tup, ix_lst, at0, at1, at2, at3, at4, at5, eq_int, eq_str, eq_bl, truD, set_c0, set_cs, setS_c, isi_tuple_tup, isi_tuple_lst, isi_tuple_str, isi_tuple_int, isi_tuple_non, isi_tuple_bl, isi_str_str, isi_str_tup, isi_str_int, isi_str_non, isi_str_lst, isi_str_bl, if_true_, if_false_, Kd.e, row_, e1, retOf, lets]

/-! ### the solver -/
/-- a dict that holds these bindings -/
def TM (o : Int) (T : List (Key × D)) (f : Nat → Option Kd) : Prop := ∀ i : Nat, getK T (.inl ((i : Int) + o)) = (f i).map (Kd.e o)
/-- what a kind left open stands for, and how far off -/
inductive Res (f : Nat → Option Kd) : Nat → Nat → Kd → Prop
  | stop {i : Nat} : f i = none → Res f i 0 (.v i)
  | val {i : Nat} {K : Kd} : f i = some K → K.isV = false → Res f i 1 K
  | step {i j m : Nat} {K : Kd} : f i = some (.v j) → Res f j m K → Res f i (m + 1) K
structure Sol (μ : Store) (n t l : Nat) (T : List (Key × D)) (L : List D) : Prop where
  n : μ[n]? = some (.ins 0 [("told", .ref t), ("limits", .ref l)])
  t : μ[t]? = some (.dic T)
  l : μ[l]? = some (.lst L)
theorem Res.fun {f : Nat → Option Kd} {i m m' : Nat} {K K' : Kd} (h : Res f i m K) (h' : Res f i m' K') : K = K' := by
  induction h generalizing m' K' with
  | stop e => cases h' with
    | stop _ => rfl
    | val e' _ => rw [e] at e'; cases e'
    | step e' _ => rw [e] at e'; cases e'
  | val e v => cases h' with
    | stop e' => rw [e] at e'; cases e'
    | val e' _ => rw [e] at e'; cases e'; rfl
    | step e' _ => rw [e] at e'; cases e'; cases v
  | step e _ ih => cases h' with
    | stop e' => rw [e] at e'; cases e'
    | val e' v => rw [e] at e'; cases e'; cases v
    | step e' h => rw [e] at e'; cases e'; exact ih h
/-- found, by plain data -/
def Sh (f : Nat → Option Kd) (K : Kd) (m : Nat) (K' : Kd) : Prop := match K with
  | .v i => Res f i m K'
  | K => K' = K ∧ m = 0
def foundC : IE := (.andd (.call "is_some" 3 (.cons (.var 1) .nil)) (.dhas false (.prim .ix (.cons (.var 1) (.cons (.lit (.int 1)) .nil))) (.attr 0 (.var 0) "told")))
def foundS : ISs := (.cons (.set 1 (.dget (.attr 0 (.var 0) "told") (.prim .ix (.cons (.var 1) (.cons (.lit (.int 1)) .nil)))))
    .nil)
theorem fld_told {t l : D} : ([("told", t), ("limits", l)] : List (Str × D)).lookup ("told" : Str) = some t := by simp [List.lookup]
theorem fld_lim {t l : D} : ([("told", t), ("limits", l)] : List (Str × D)).lookup ("limits" : Str) = some l := by simp [List.lookup, q4]
section
variable {k n t l : Nat} {μ : Store} {T : List (Key × D)} {L : List D} {f : Nat → Option Kd}
theorem foundC_v (S : Sol μ n t l T L) (F : TM 0 T f) {i : Nat} : (evE ⟨run fs (k + 1), (runP fs (k + 1)).2⟩ foundC [.val (.ref n), .val ((Kd.v i).e 0)] μ).bind (fun r => (truD (viewD r.2 r.1)).map fun k => (k, r.2)) = some ((f i).isSome, μ) := by
  have h1 := is_some (k := k) (o := 0) (K := .v i) (μ := μ)
  have h2 : getK T (.inl (i : Int)) = (f i).map (Kd.e 0) := by have := F i; simpa using this
  have h3 : ((f i).map (Kd.e 0)).isSome = (f i).isSome := by cases f i <;> rfl
  simp only [Kd.e, some_, Int.add_zero, Kd.isV] at h1
  simp [foundC, evE, evEs, evO, evC, evF, evSrc, evIn, evS, evSs, Option.bind_some, Option.map_some, Option.bind_none, Option.map_none, List.map_cons, List.map_nil, slot_c0, slot_cs, own_c0, own_cs, ownv_c0, ownv_cs, ownt_c0, tup_c0, tup_cs, view_int, view_str, view_bl, view_non, view_tup, view_lst, view_ty, view_fn, p_bin, p_neg, p_cmp, p_ix, p_len_tup, p_len_lst, p_abs, p_int, p_intb, p_isi, p_tuple_tup, p_tuple_lst, p_max, p_min, b_add_int, b_sub_int, c_lt, c_le, c_gt, c_ge, c_eq, c_ne, ix_tup, ix_lst, at0, at1, at2, at3, at4, at5, eq_int, eq_str, eq_bl, truD, set_c0, set_cs, setS_c, isi_tuple_tup, isi_tuple_lst, isi_tuple_str, isi_tuple_int, isi_tuple_non, isi_tuple_bl, isi_str_str, isi_str_tup, isi_str_int, isi_str_non, isi_str_lst, isi_str_bl, if_true_, if_false_, Kd.e, some_, h1, S.n, S.t, fld_told, keyD, h2, h3]
theorem foundC_n {K : Kd} (h : K.isV = false) : (evE ⟨run fs (k + 1), (runP fs (k + 1)).2⟩ foundC [.val (.ref n), .val (K.e 0)] μ).bind (fun r => (truD (viewD r.2 r.1)).map fun k => (k, r.2)) = some (false, μ) := by
  have h1 := is_some (k := k) (o := 0) (K := K) (μ := μ)
  rw [h] at h1
  simp [foundC, evE, evEs, evO, evC, evF, evSrc, evIn, evS, evSs, Option.bind_some, Option.map_some, Option.bind_none, Option.map_none, List.map_cons, List.map_nil, slot_c0, slot_cs, own_c0, own_cs, ownv_c0, ownv_cs, ownt_c0, tup_c0, tup_cs, view_int, view_str, view_bl, view_non, view_tup, view_lst, view_ty, view_fn, p_bin, p_neg, p_cmp, p_ix, p_len_tup, p_len_lst, p_abs, p_int, p_intb, p_isi, p_tuple_tup, p_tuple_lst, p_max, p_min, b_add_int, b_sub_int, c_lt, c_le, c_gt, c_ge, c_eq, c_ne, ix_tup, ix_lst, at0, at1, at2, at3, at4, at5, eq_int, eq_str, eq_bl, truD, set_c0, set_cs, setS_c, isi_tuple_tup, isi_tuple_lst, isi_tuple_str, isi_tuple_int, isi_tuple_non, isi_tuple_bl, isi_str_str, isi_str_tup, isi_str_int, isi_str_non, isi_str_lst, isi_str_bl, if_true_, if_false_, h1]
theorem foundS_v (S : Sol μ n t l T L) (F : TM 0 T f) {i : Nat} {K : Kd} (h : f i = some K) : evSs ⟨run fs (k + 1), (runP fs (k + 1)).2⟩ foundS [.val (.ref n), .val ((Kd.v i).e 0)] μ = some (.nx, [.val (.ref n), .val (K.e 0)], μ) := by
  have h2 : getK T (.inl (i : Int)) = some (K.e 0) := by have := F i; rw [h] at this; simpa using this
  simp [foundS, evE, evEs, evO, evC, evF, evSrc, evIn, evS, evSs, Option.bind_some, Option.map_some, Option.bind_none, Option.map_none, List.map_cons, List.map_nil, slot_c0, slot_cs, own_c0, own_cs, ownv_c0, ownv_cs, ownt_c0, tup_c0, tup_cs, view_int, view_str, view_bl, view_non, view_tup, view_lst, view_ty, view_fn, p_bin, p_neg, p_cmp, p_ix, p_len_tup, p_len_lst, p_abs, p_int, p_intb, p_isi, p_tuple_tup, p_tuple_lst, p_max, p_min, b_add_int, b_sub_int, c_lt, c_le, c_gt, c_ge, c_eq, c_ne, ix_tup, ix_lst, at0, at1, at2, at3, at4, at5, eq_int, eq_str, eq_bl, truD, set_c0, set_cs, setS_c, isi_tuple_tup, isi_tuple_lst, isi_tuple_str, isi_tuple_int, isi_tuple_non, isi_tuple_bl, isi_str_str, isi_str_tup, isi_str_int, isi_str_non, isi_str_lst, isi_str_bl, if_true_, if_false_, Kd.e, some_, S.n, S.t, fld_told, keyD, h2]
theorem found_loop (S : Sol μ n t l T L) (F : TM 0 T f) {i m : Nat} {K : Kd} (h : Res f i m K) : ∀ q, m < q →
    loopW (fun ρ μ => (evE ⟨run fs (k + 1), (runP fs (k + 1)).2⟩ foundC ρ μ).bind fun r => (truD (viewD r.2 r.1)).map fun k => (k, r.2)) (fun ρ μ => evSs ⟨run fs (k + 1), (runP fs (k + 1)).2⟩ foundS ρ μ) q [.val (.ref n), .val ((Kd.v i).e 0)] μ =
      some (.nx, [.val (.ref n), .val (K.e 0)], μ) := by
  induction h with
  | stop e =>
    intro q hq
    obtain ⟨q, rfl⟩ : ∃ p, q = p + 1 := ⟨q - 1, by omega⟩
    simp only [loopW, foundC_v S F, e, Option.bind_some, Option.isSome_none]
    rfl
  | val e v =>
    intro q hq
    obtain ⟨q, rfl⟩ : ∃ p, q = p + 1 + 1 := ⟨q - 2, by omega⟩
    simp only [loopW, foundC_v S F, e, Option.bind_some, Option.isSome_some, if_true, foundS_v S F e, foundC_n v]
    rfl
  | step e _ ih =>
    intro q hq
    obtain ⟨q, rfl⟩ : ∃ p, q = p + 1 := ⟨q - 1, by omega⟩
    simp only [loopW, foundC_v S F, e, Option.bind_some, Option.isSome_some, if_true, foundS_v S F e]
    exact ih q (by omega)
theorem found (S : Sol μ n t l T L) (F : TM 0 T f) {K K' : Kd} {m : Nat} (h : Sh f K m K') (hm : m < 1000) : run fs (k + 2) 6 [.ref n, K.e 0] μ = some (K'.e 0, μ) := by
  rw [run_eq g6 rfl]
  show retOf (evSs _ (.cons (.whil foundC foundS) (.cons (.ret (.var 1)) .nil)) [.val (.ref n), .val (K.e 0)] μ) = _
  have loop : evS ⟨run fs (k + 1), (runP fs (k + 1)).2⟩ (.whil foundC foundS) [.val (.ref n), .val (K.e 0)] μ = some (.nx, [.val (.ref n), .val (K'.e 0)], μ) := by
    have big : m < fuelW := Nat.lt_trans hm (by decide)
    cases hK : K.isV with
    | true =>
      cases K <;> (first | (cases hK; done) | skip)
      exact found_loop S F h _ big
    | false =>
      have e : K' = K := by
        cases K <;> (first | (cases hK; done) | exact h.1)
      subst e
      simp only [evS]
      obtain ⟨q, hq⟩ : ∃ p, fuelW = p + 1 := ⟨fuelW - 1, by decide⟩
      rw [hq]
      simp only [loopW, foundC_n hK, Option.bind_some]
      rfl
  simp only [evSs, loop, Option.bind_some]
  simp [evE, evEs, evO, evC, evF, evSrc, evIn, evS, evSs, Option.bind_some, Option.map_some, Option.bind_none, Option.map_none, List.map_cons, List.map_nil, slot_c0, slot_cs, own_c0, own_cs, ownv_c0, ownv_cs, ownt_c0, tup_c0, tup_cs, view_int, view_str, view_bl, view_non, view_tup, view_lst, view_ty, view_fn, p_bin, p_neg, p_cmp, p_ix, p_len_tup, p_len_lst, p_abs, p_int, p_intb, p_isi, p_tuple_tup, p_tuple_lst, p_max, p_min, b_add_int, b_sub_int, c_lt, c_le, c_gt, c_ge, c_eq, c_ne, ix_tup, ix_lst, at0, at1, at2, at3, at4, at5, eq_int, eq_str, eq_bl, truD, set_c0, set_cs, setS_c, isi_tuple_tup, isi_tuple_lst, isi_tuple_str, isi_tuple_int, isi_tuple_non, isi_tuple_bl, isi_str_str, isi_str_tup, isi_str_int, isi_str_non, isi_str_lst, isi_str_bl, if_true_, if_false_, retOf]
end

/-! ### the law's own net -/
def lfB : ISs := (.cons (.ifs (.andd (.prim .isi (.cons (.var 1) (.cons (.glob "tuple" (.ty "tuple")) .nil))) (.andd (.prim (.cmp .Eq) (.cons (.prim .ix (.cons (.var 1) (.cons (.lit (.int 0)) .nil))) (.cons (.lit (.str "some")) .nil))) (.dhas false (.prim .ix (.cons (.var 1) (.cons (.lit (.int 1)) .nil))) (.var 0))))
    (.cons (.set 1 (.dget (.var 0) (.prim .ix (.cons (.var 1) (.cons (.lit (.int 1)) .nil)))))
    .nil)
    (.cons .brk
    .nil))
    .nil)
def lfT (Γ : Env2) : D → Slots → Store → SR := fun x ρ μ => (asgT (.nm 2) x ρ).bind fun ρ' => evSs Γ lfB ρ' μ
section
variable {Γ : Env2} {k t : Nat} {μ : Store} {T : List (Key × D)} {f : Nat → Option Kd} {s : Slot} {x : D}
theorem lf_stop (ht : μ[t]? = some (.dic T)) (F : TM 1 T f) {i : Nat} (h : f i = none) : lfT Γ x [.val (.ref t), .val ((Kd.v i).e 1), s] μ = some (.brk, [.val (.ref t), .val ((Kd.v i).e 1), .val x], μ) := by
  have h2 : getK T (.inl ((i : Int) + 1)) = none := by have := F i; rw [h] at this; simpa using this
  simp [lfT, lfB, asgT, evE, evEs, evO, evC, evF, evSrc, evIn, evS, evSs, Option.bind_some, Option.map_some, Option.bind_none, Option.map_none, List.map_cons, List.map_nil, slot_c0, slot_cs, own_c0, own_cs, ownv_c0, ownv_cs, ownt_c0, tup_c0, tup_cs, view_int, view_str, view_bl, view_non, view_tup, view_lst, view_ty, view_fn, p_bin, p_neg, p_cmp, p_ix, p_len_tup, p_len_lst, p_abs, p_int, p_intb, p_isi, p_tuple_tup, p_tuple_lst, p_max, p_min, b_add_int, b_sub_int, c_lt, c_le, c_gt, c_ge, c_eq, c_ne, ix_tup, ix_lst, at0, at1, at2, at3, at4, at5, eq_int, eq_str, eq_bl, truD, set_c0, set_cs, setS_c, isi_tuple_tup, isi_tuple_lst, isi_tuple_str, isi_tuple_int, isi_tuple_non, isi_tuple_bl, isi_str_str, isi_str_tup, isi_str_int, isi_str_non, isi_str_lst, isi_str_bl, if_true_, if_false_, Kd.e, some_, ht, keyD, h2]
theorem lf_step (ht : μ[t]? = some (.dic T)) (F : TM 1 T f) {i : Nat} {K : Kd} (h : f i = some K) : lfT Γ x [.val (.ref t), .val ((Kd.v i).e 1), s] μ = some (.nx, [.val (.ref t), .val (K.e 1), .val x], μ) := by
  have h2 : getK T (.inl ((i : Int) + 1)) = some (K.e 1) := by have := F i; rw [h] at this; simpa using this
  simp [lfT, lfB, asgT, evE, evEs, evO, evC, evF, evSrc, evIn, evS, evSs, Option.bind_some, Option.map_some, Option.bind_none, Option.map_none, List.map_cons, List.map_nil, slot_c0, slot_cs, own_c0, own_cs, ownv_c0, ownv_cs, ownt_c0, tup_c0, tup_cs, view_int, view_str, view_bl, view_non, view_tup, view_lst, view_ty, view_fn, p_bin, p_neg, p_cmp, p_ix, p_len_tup, p_len_lst, p_abs, p_int, p_intb, p_isi, p_tuple_tup, p_tuple_lst, p_max, p_min, b_add_int, b_sub_int, c_lt, c_le, c_gt, c_ge, c_eq, c_ne, ix_tup, ix_lst, at0, at1, at2, at3, at4, at5, eq_int, eq_str, eq_bl, truD, set_c0, set_cs, setS_c, isi_tuple_tup, isi_tuple_lst, isi_tuple_str, isi_tuple_int, isi_tuple_non, isi_tuple_bl, isi_str_str, isi_str_tup, isi_str_int, isi_str_non, isi_str_lst, isi_str_bl, if_true_, if_false_, Kd.e, some_, ht, keyD, h2]
theorem lf_nonv {K : Kd} (h : K.isV = false) : lfT Γ x [.val (.ref t), .val (K.e 1), s] μ = some (.brk, [.val (.ref t), .val (K.e 1), .val x], μ) := by
  cases K with
  | b z => simp [lfT, lfB, asgT, evE, evEs, evO, evC, evF, evSrc, evIn, evS, evSs, Option.bind_some, Option.map_some, Option.bind_none, Option.map_none, List.map_cons, List.map_nil, slot_c0, slot_cs, own_c0, own_cs, ownv_c0, ownv_cs, ownt_c0, tup_c0, tup_cs, view_int, view_str, view_bl, view_non, view_tup, view_lst, view_ty, view_fn, p_bin, p_neg, p_cmp, p_ix, p_len_tup, p_len_lst, p_abs, p_int, p_intb, p_isi, p_tuple_tup, p_tuple_lst, p_max, p_min, b_add_int, b_sub_int, c_lt, c_le, c_gt, c_ge, c_eq, c_ne, ix_tup, ix_lst, at0, at1, at2, at3, at4, at5, eq_int, eq_str, eq_bl, truD, set_c0, set_cs, setS_c, isi_tuple_tup, isi_tuple_lst, isi_tuple_str, isi_tuple_int, isi_tuple_non, isi_tuple_bl, isi_str_str, isi_str_tup, isi_str_int, isi_str_non, isi_str_lst, isi_str_bl, if_true_, if_false_, Kd.e]
  | v i => cases h
  | rb z => simp [lfT, lfB, asgT, evE, evEs, evO, evC, evF, evSrc, evIn, evS, evSs, Option.bind_some, Option.map_some, Option.bind_none, Option.map_none, List.map_cons, List.map_nil, slot_c0, slot_cs, own_c0, own_cs, ownv_c0, ownv_cs, ownt_c0, tup_c0, tup_cs, view_int, view_str, view_bl, view_non, view_tup, view_lst, view_ty, view_fn, p_bin, p_neg, p_cmp, p_ix, p_len_tup, p_len_lst, p_abs, p_int, p_intb, p_isi, p_tuple_tup, p_tuple_lst, p_max, p_min, b_add_int, b_sub_int, c_lt, c_le, c_gt, c_ge, c_eq, c_ne, ix_tup, ix_lst, at0, at1, at2, at3, at4, at5, eq_int, eq_str, eq_bl, truD, set_c0, set_cs, setS_c, isi_tuple_tup, isi_tuple_lst, isi_tuple_str, isi_tuple_int, isi_tuple_non, isi_tuple_bl, isi_str_str, isi_str_tup, isi_str_int, isi_str_non, isi_str_lst, isi_str_bl, if_true_, if_false_, Kd.e, row_, q2]
  | rv z => simp [lfT, lfB, asgT, evE, evEs, evO, evC, evF, evSrc, evIn, evS, evSs, Option.bind_some, Option.map_some, Option.bind_none, Option.map_none, List.map_cons, List.map_nil, slot_c0, slot_cs, own_c0, own_cs, ownv_c0, ownv_cs, ownt_c0, tup_c0, tup_cs, view_int, view_str, view_bl, view_non, view_tup, view_lst, view_ty, view_fn, p_bin, p_neg, p_cmp, p_ix, p_len_tup, p_len_lst, p_abs, p_int, p_intb, p_isi, p_tuple_tup, p_tuple_lst, p_max, p_min, b_add_int, b_sub_int, c_lt, c_le, c_gt, c_ge, c_eq, c_ne, ix_tup, ix_lst, at0, at1, at2, at3, at4, at5, eq_int, eq_str, eq_bl, truD, set_c0, set_cs, setS_c, isi_tuple_tup, isi_tuple_lst, isi_tuple_str, isi_tuple_int, isi_tuple_non, isi_tuple_bl, isi_str_str, isi_str_tup, isi_str_int, isi_str_non, isi_str_lst, isi_str_bl, if_true_, if_false_, Kd.e, row_, q2]
theorem lf_loop (ht : μ[t]? = some (.dic T)) (F : TM 1 T f) {i m : Nat} {K : Kd} (h : Res f i m K) : ∀ (ds : List D) (s : Slot), m < ds.length → ∃ s', loopF (lfT Γ) ds [.val (.ref t), .val ((Kd.v i).e 1), s] μ = some (.nx, [.val (.ref t), .val (K.e 1), s'], μ) := by
  induction h with
  | stop e =>
    intro ds s hl
    cases ds with
    | nil => simp at hl
    | cons d ds => exact ⟨.val d, by simp only [loopF, lf_stop ht F e, Option.bind_some]⟩
  | val e v =>
    intro ds s hl
    match ds, hl with
    | d :: d2 :: ds, _ => exact ⟨.val d2, by simp only [loopF, lf_step ht F e, Option.bind_some, lf_nonv v]⟩
  | step e _ ih =>
    intro ds s hl
    cases ds with
    | nil => simp at hl
    | cons d ds =>
      obtain ⟨s', h⟩ := ih ds (.val d) (by simp at hl; omega)
      exact ⟨s', by simp only [loopF, lf_step ht F e, Option.bind_some, h]⟩
theorem lf_any (ht : μ[t]? = some (.dic T)) (F : TM 1 T f) {K K' : Kd} {m : Nat} (h : Sh f K m K') (hm : m < 1000) (s : Slot) :
    ∃ s', evS Γ (.fors (.nm 2) (.range1 (.lit (.int 200000))) lfB) [.val (.ref t), .val (K.e 1), s] μ = some (.nx, [.val (.ref t), .val (K'.e 1), s'], μ) := by
  have src : evSrc Γ (.range1 (.lit (.int 200000))) [.val (.ref t), .val (K.e 1), s] μ = some (.items (rangeD 0 200000), μ) := by
    unfold evSrc
    simp only [evE, Option.bind_some]
    rw [if_pos (by decide)]
    rfl
  have big : m < (rangeD 0 200000).length := by unfold rangeD; simp; omega
  have key : ∃ s', loopF (lfT Γ) (rangeD 0 200000) [.val (.ref t), .val (K.e 1), s] μ = some (.nx, [.val (.ref t), .val (K'.e 1), s'], μ) := by
    cases hK : K.isV with
    | true =>
      cases K <;> (first | (cases hK; done) | skip)
      exact lf_loop ht F h _ s big
    | false =>
      have e : K' = K := by cases K <;> (first | (cases hK; done) | exact h.1)
      subst e
      generalize rangeD 0 200000 = ds at big
      cases ds with
      | nil => simp at big
      | cons d ds => exact ⟨.val d, by simp only [loopF, lf_nonv hK, Option.bind_some]⟩
  obtain ⟨s', e⟩ := key
  exact ⟨s', by simp only [evS, src, Option.bind_some]; exact e⟩
def Kd.isR : Kd → Bool
  | .rb _ => true | .rv _ => true | _ => false
theorem lfound_flat (ht : μ[t]? = some (.dic T)) (F : TM 1 T f) {K K' : Kd} {m : Nat} (h : Sh f K m K') (hm : m < 1000) (hr : K'.isR = false) : run fs (k + 1) 19 [.ref t, K.e 1] μ = some (K'.e 1, μ) := by
  rw [run_eq g19 rfl]
  obtain ⟨s', e⟩ := lf_any (Γ := ⟨run fs k, (runP fs k).2⟩) ht F h hm .emp
  show retOf (evSs _ (.cons (.fors (.nm 2) (.range1 (.lit (.int 200000))) lfB) _) [.val (.ref t), .val (K.e 1), .emp] μ) = _
  rw [show ∀ ss, evSs ⟨run fs k, (runP fs k).2⟩ (.cons (.fors (.nm 2) (.range1 (.lit (.int 200000))) lfB) ss) [.val (.ref t), .val (K.e 1), .emp] μ = evSs ⟨run fs k, (runP fs k).2⟩ ss [.val (.ref t), .val (K'.e 1), s'] μ from fun ss => by simp only [evSs, e, Option.bind_some]]
  cases K' with
  | b z => simp [evE, evEs, evO, evC, evF, evSrc, evIn, evS, evSs, Option.bind_some, Option.map_some, Option.bind_none, Option.map_none, List.map_cons, List.map_nil, slot_c0, slot_cs, own_c0, own_cs, ownv_c0, ownv_cs, ownt_c0, tup_c0, tup_cs, view_int, view_str, view_bl, view_non, view_tup, view_lst, view_ty, view_fn, p_bin, p_neg, p_cmp, p_ix, p_len_tup, p_len_lst, p_abs, p_int, p_intb, p_isi, p_tuple_tup, p_tuple_lst, p_max, p_min, b_add_int, b_sub_int, c_lt, c_le, c_gt, c_ge, c_eq, c_ne, ix_tup, ix_lst, at0, at1, at2, at3, at4, at5, eq_int, eq_str, eq_bl, truD, set_c0, set_cs, setS_c, isi_tuple_tup, isi_tuple_lst, isi_tuple_str, isi_tuple_int, isi_tuple_non, isi_tuple_bl, isi_str_str, isi_str_tup, isi_str_int, isi_str_non, isi_str_lst, isi_str_bl, if_true_, if_false_, Kd.e, retOf]
  | v i => simp [evE, evEs, evO, evC, evF, evSrc, evIn, evS, evSs, Option.bind_some, Option.map_some, Option.bind_none, Option.map_none, List.map_cons, List.map_nil, slot_c0, slot_cs, own_c0, own_cs, ownv_c0, ownv_cs, ownt_c0, tup_c0, tup_cs, view_int, view_str, view_bl, view_non, view_tup, view_lst, view_ty, view_fn, p_bin, p_neg, p_cmp, p_ix, p_len_tup, p_len_lst, p_abs, p_int, p_intb, p_isi, p_tuple_tup, p_tuple_lst, p_max, p_min, b_add_int, b_sub_int, c_lt, c_le, c_gt, c_ge, c_eq, c_ne, ix_tup, ix_lst, at0, at1, at2, at3, at4, at5, eq_int, eq_str, eq_bl, truD, set_c0, set_cs, setS_c, isi_tuple_tup, isi_tuple_lst, isi_tuple_str, isi_tuple_int, isi_tuple_non, isi_tuple_bl, isi_str_str, isi_str_tup, isi_str_int, isi_str_non, isi_str_lst, isi_str_bl, if_true_, if_false_, Kd.e, some_, q1, retOf]
  | rb _ => cases hr
  | rv _ => cases hr
/-- a kind, all the way -/
inductive Full (f : Nat → Option Kd) (K : Kd) : Kd → Prop
  | flat {m : Nat} {K' : Kd} : Sh f K m K' → m < 1000 → K'.isR = false → Full f K K'
  | rb {m : Nat} {z : Bs} : Sh f K m (.rb z) → m < 1000 → Full f K (.rb z)
  | rv {m j m2 w : Nat} : Sh f K m (.rv j) → m < 1000 → Res f j m2 (.v w) → m2 < 1000 → Full f K (.rv w)
  | rvb {m j m2 : Nat} {z : Bs} : Sh f K m (.rv j) → m < 1000 → Res f j m2 (.b z) → m2 < 1000 → Full f K (.rb z)
theorem lfound (ht : μ[t]? = some (.dic T)) (F : TM 1 T f) {K K' : Kd} (h : Full f K K') : run fs (k + 2) 19 [.ref t, K.e 1] μ = some (K'.e 1, μ) := by
  have go : ∀ {m : Nat} {K1 : Kd} (R : Kd), Sh f K m K1 → m < 1000 → K1.e 1 = row_ (R.e 1) → ∀ R' : Kd, run fs (k + 1) 19 [.ref t, R.e 1] μ = some (R'.e 1, μ) → run fs (k + 2) 19 [.ref t, K.e 1] μ = some (row_ (R'.e 1), μ) := by
    intro m K1 R h hm e R' h2
    rw [run_eq g19 rfl]
    obtain ⟨s', e1⟩ := lf_any (Γ := ⟨run fs (k + 1), (runP fs (k + 1)).2⟩) ht F h hm .emp
    show retOf (evSs _ (.cons (.fors (.nm 2) (.range1 (.lit (.int 200000))) lfB) _) [.val (.ref t), .val (K.e 1), .emp] μ) = _
    rw [show ∀ ss, evSs ⟨run fs (k + 1), (runP fs (k + 1)).2⟩ (.cons (.fors (.nm 2) (.range1 (.lit (.int 200000))) lfB) ss) [.val (.ref t), .val (K.e 1), .emp] μ = evSs ⟨run fs (k + 1), (runP fs (k + 1)).2⟩ ss [.val (.ref t), .val (K1.e 1), s'] μ from fun ss => by simp only [evSs, e1, Option.bind_some]]
    rw [e]
    generalize R.e 1 = r at h2
    generalize R'.e 1 = r' at h2
    simp [evE, evEs, evO, evC, evF, evSrc, evIn, evS, evSs, Option.bind_some, Option.map_some, Option.bind_none, Option.map_none, List.map_cons, List.map_nil, slot_c0, slot_cs, own_c0, own_cs, ownv_c0, ownv_cs, ownt_c0, tup_c0, tup_cs, view_int, view_str, view_bl, view_non, view_tup, view_lst, view_ty, view_fn, p_bin, p_neg, p_cmp, p_ix, p_len_tup, p_len_lst, p_abs, p_int, p_intb, p_isi, p_tuple_tup, p_tuple_lst, p_max, p_min, b_add_int, b_sub_int, c_lt, c_le, c_gt, c_ge, c_eq, c_ne, ix_tup, ix_lst, at0, at1, at2, at3, at4, at5, eq_int, eq_str, eq_bl, truD, set_c0, set_cs, setS_c, isi_tuple_tup, isi_tuple_lst, isi_tuple_str, isi_tuple_int, isi_tuple_non, isi_tuple_bl, isi_str_str, isi_str_tup, isi_str_int, isi_str_non, isi_str_lst, isi_str_bl, if_true_, if_false_, row_, h2, retOf, le_size]
  cases h with
  | flat h1 h2 h3 => exact lfound_flat ht F h1 h2 h3
  | @rb m z h1 h2 => exact go (.b z) h1 h2 rfl (.b z) (lfound_flat ht F (K := .b z) (K' := .b z) (m := 0) ⟨rfl, rfl⟩ (by decide) rfl)
  | @rv m j m2 w h1 h2 h3 h4 => exact go (.v j) h1 h2 rfl (.v w) (lfound_flat ht F (K := .v j) h3 h4 rfl)
  | @rvb m j m2 z h1 h2 h3 h4 => exact go (.v j) h1 h2 rfl (.b z) (lfound_flat ht F (K := .v j) h3 h4 rfl)
end
end FH.K06
end
section
namespace FH.K06
open PySem PySem.Spec PyProof.Rows L2
theorem g5 : fs[5]? = some ⟨2, 2, b5⟩ := rfl
theorem g7 : fs[7]? = some ⟨2, 2, b7⟩ := rfl
theorem g8 : fs[8]? = some ⟨3, 3, b8⟩ := rfl
theorem g22 : fs[22]? = some ⟨3, 4, b22⟩ := rfl
theorem g23 : fs[23]? = some ⟨2, 2, b23⟩ := rfl
theorem no_m {m : Str} {t l : D} (h1 : (m == ("told" : Str)) = false) (h2 : (m == ("limits" : Str)) = false) : ([("told", t), ("limits", l)] : List (Str × D)).lookup m = none := by simp [List.lookup, h1, h2]
theorem no_found {t l : D} : ([("told", t), ("limits", l)] : List (Str × D)).lookup ("found" : Str) = none := no_m (by decide +kernel) (by decide +kernel)
theorem no_limit {t l : D} : ([("told", t), ("limits", l)] : List (Str × D)).lookup ("limit" : Str) = none := no_m (by decide +kernel) (by decide +kernel)
theorem no_tell {t l : D} : ([("told", t), ("limits", l)] : List (Str × D)).lookup ("tell" : Str) = none := no_m (by decide +kernel) (by decide +kernel)
theorem no_unify {t l : D} : ([("told", t), ("limits", l)] : List (Str × D)).lookup ("unify" : Str) = none := no_m (by decide +kernel) (by decide +kernel)
theorem no_led {t l : D} : ([("told", t), ("limits", l)] : List (Str × D)).lookup ("led" : Str) = none := no_m (by decide +kernel) (by decide +kernel)
theorem no_fresh {t l : D} : ([("told", t), ("limits", l)] : List (Str × D)).lookup ("fresh" : Str) = none := no_m (by decide +kernel) (by decide +kernel)
theorem no_row {t l : D} : ([("told", t), ("limits", l)] : List (Str × D)).lookup ("row_of" : Str) = none := no_m (by decide +kernel) (by decide +kernel)
theorem no_twin {t l : D} : ([("told", t), ("limits", l)] : List (Str × D)).lookup ("twin" : Str) = none := no_m (by decide +kernel) (by decide +kernel)
theorem str_w {w : Wd} : c_STRENGTH.lookup w.s = some (.int (w.r : Int)) := by cases w <;> exact by_same (by decide +kernel)
/-- the stronger word -/
def wmax (w w0 : Wd) : Wd := if w0.r < w.r then w else w0
/-- the limits as a list -/
def LL (L : List D) (lim : Nat → Option Wd) : Prop := ∀ i : Nat, L[i]? = (lim i).map fun w => D.str w.s
section
variable {k n t l : Nat} {μ : Store} {T : List (Key × D)} {L : List D} {f : Nat → Option Kd} {lim : Nat → Option Wd} {K K' : Kd} {m : Nat} {w : Wd}
theorem limit_n (S : Sol μ n t l T L) (F : TM 0 T f) (h : Sh f K m K') (hm : m < 1000) (hv : K'.isV = false) : run fs (k + 3) 8 [.ref n, K.e 0, .str w.s] μ = some (.bl (lets K' w), μ) := by
  rw [run_eq g8 rfl]
  have e1 := found (k := k) S F h hm
  have e2 := is_some (k := k + 1) (o := 0) (K := K') (μ := μ)
  have e3 := is_let (k := k + 1) (o := 0) (K := K') (w := w) (μ := μ)
  rw [hv] at e2
  generalize K'.e 0 = d at e1 e2 e3
  simp [start0, b8, evE, evEs, evO, evC, evF, evSrc, evIn, evS, evSs, Option.bind_some, Option.map_some, Option.bind_none, Option.map_none, List.map_cons, List.map_nil, slot_c0, slot_cs, own_c0, own_cs, ownv_c0, ownv_cs, ownt_c0, tup_c0, tup_cs, view_int, view_str, view_bl, view_non, view_tup, view_lst, view_ty, view_fn, p_bin, p_neg, p_cmp, p_ix, p_len_tup, p_len_lst, p_abs, p_int, p_intb, p_isi, p_tuple_tup, p_tuple_lst, p_max, p_min, b_add_int, b_sub_int, c_lt, c_le, c_gt, c_ge, c_eq, c_ne, ix_tup, ix_lst, at0, at1, at2, at3, at4, at5, eq_int, eq_str, eq_bl, truD, set_c0, set_cs, setS_c, isi_tuple_tup, isi_tuple_lst, isi_tuple_str, isi_tuple_int, isi_tuple_non, isi_tuple_bl, isi_str_str, isi_str_tup, isi_str_int, isi_str_non, isi_str_lst, isi_str_bl, if_true_, if_false_, S.n, no_found, e1, e2, e3, retOf]
theorem limit_v (S : Sol μ n t l T L) (F : TM 0 T f) (hL : LL L lim) {u : Nat} {w0 : Wd} (h : Sh f K m (.v u)) (hm : m < 1000) (hu : lim u = some w0) :
    run fs (k + 3) 8 [.ref n, K.e 0, .str w.s] μ = some (.bl true, μ.set l (.lst (L.set u (.str (wmax w w0).s)))) := by
  rw [run_eq g8 rfl]
  have e1 := found (k := k) S F h hm
  have e2 := is_some (k := k + 1) (o := 0) (K := .v u) (μ := μ)
  have hLu : L[u]? = some (.str w0.s) := by rw [hL u, hu]; rfl
  have e3 : L2.atI L (u : Int) = some (.str w0.s) := atI_nat hLu
  have e4 : ixN L.length (u : Int) = some u := by
    have := (List.getElem?_eq_some_iff.mp hLu).1
    unfold ixN; simp [this]
  have e5 := view_lstc S.l
  have e6 := lst_at_ S.l
  generalize K.e 0 = d at e1 ⊢
  simp only [Kd.e, some_, Int.add_zero, Kd.isV] at e1 e2
  by_cases hw : w0.r < w.r
  · simp [start0, b8, evE, evEs, evO, evC, evF, evSrc, evIn, evS, evSs, Option.bind_some, Option.map_some, Option.bind_none, Option.map_none, List.map_cons, List.map_nil, slot_c0, slot_cs, own_c0, own_cs, ownv_c0, ownv_cs, ownt_c0, tup_c0, tup_cs, view_int, view_str, view_bl, view_non, view_tup, view_lst, view_ty, view_fn, p_bin, p_neg, p_cmp, p_ix, p_len_tup, p_len_lst, p_abs, p_int, p_intb, p_isi, p_tuple_tup, p_tuple_lst, p_max, p_min, b_add_int, b_sub_int, c_lt, c_le, c_gt, c_ge, c_eq, c_ne, ix_tup, ix_lst, at0, at1, at2, at3, at4, at5, eq_int, eq_str, eq_bl, truD, set_c0, set_cs, setS_c, isi_tuple_tup, isi_tuple_lst, isi_tuple_str, isi_tuple_int, isi_tuple_non, isi_tuple_bl, isi_str_str, isi_str_tup, isi_str_int, isi_str_non, isi_str_lst, isi_str_bl, if_true_, if_false_, S.n, no_found, fld_lim, e1, e2, e3, e4, e5, e6, str_w, hw, retOf, wmax]
  · have same : μ.set l (.lst (L.set u (.str w0.s))) = μ := by
      have : L.set u (.str w0.s) = L := by
        obtain ⟨h1, h2⟩ := List.getElem?_eq_some_iff.mp hLu
        rw [← h2]; exact List.set_getElem_self h1
      rw [this]; exact set_same S.l
    simp [start0, b8, evE, evEs, evO, evC, evF, evSrc, evIn, evS, evSs, Option.bind_some, Option.map_some, Option.bind_none, Option.map_none, List.map_cons, List.map_nil, slot_c0, slot_cs, own_c0, own_cs, ownv_c0, ownv_cs, ownt_c0, tup_c0, tup_cs, view_int, view_str, view_bl, view_non, view_tup, view_lst, view_ty, view_fn, p_bin, p_neg, p_cmp, p_ix, p_len_tup, p_len_lst, p_abs, p_int, p_intb, p_isi, p_tuple_tup, p_tuple_lst, p_max, p_min, b_add_int, b_sub_int, c_lt, c_le, c_gt, c_ge, c_eq, c_ne, ix_tup, ix_lst, at0, at1, at2, at3, at4, at5, eq_int, eq_str, eq_bl, truD, set_c0, set_cs, setS_c, isi_tuple_tup, isi_tuple_lst, isi_tuple_str, isi_tuple_int, isi_tuple_non, isi_tuple_bl, isi_str_str, isi_str_tup, isi_str_int, isi_str_non, isi_str_lst, isi_str_bl, if_true_, if_false_, S.n, no_found, fld_lim, e1, e2, e3, e4, e5, e6, str_w, hw, retOf, wmax, same]
theorem row_of_v (S : Sol μ n t l T L) (F : TM 0 T f) (hL : LL L lim) {u : Nat} {w0 : Wd} (h : Sh f K m (.v u)) (hm : m < 1000) (hu : lim u = some w0) :
    run fs (k + 4) 7 [.ref n, K.e 0] μ = some (row_ (K.e 0), μ.set l (.lst (L.set u (.str (wmax .plain w0).s)))) := by
  rw [run_eq g7 rfl]
  have e1 := limit_v (k := k) (w := .plain) S F hL h hm hu
  generalize K.e 0 = d at e1
  simp [start0, b7, evE, evEs, evO, evC, evF, evSrc, evIn, evS, evSs, Option.bind_some, Option.map_some, Option.bind_none, Option.map_none, List.map_cons, List.map_nil, slot_c0, slot_cs, own_c0, own_cs, ownv_c0, ownv_cs, ownt_c0, tup_c0, tup_cs, view_int, view_str, view_bl, view_non, view_tup, view_lst, view_ty, view_fn, p_bin, p_neg, p_cmp, p_ix, p_len_tup, p_len_lst, p_abs, p_int, p_intb, p_isi, p_tuple_tup, p_tuple_lst, p_max, p_min, b_add_int, b_sub_int, c_lt, c_le, c_gt, c_ge, c_eq, c_ne, ix_tup, ix_lst, at0, at1, at2, at3, at4, at5, eq_int, eq_str, eq_bl, truD, set_c0, set_cs, setS_c, isi_tuple_tup, isi_tuple_lst, isi_tuple_str, isi_tuple_int, isi_tuple_non, isi_tuple_bl, isi_str_str, isi_str_tup, isi_str_int, isi_str_non, isi_str_lst, isi_str_bl, if_true_, if_false_, S.n, no_limit, show ("plain" : Str) = Wd.plain.s from rfl, e1, retOf, row_, le_size]
theorem row_of_n (S : Sol μ n t l T L) (F : TM 0 T f) (h : Sh f K m K') (hm : m < 1000) (hv : K'.isV = false) :
    run fs (k + 4) 7 [.ref n, K.e 0] μ = some (if lets K' .plain then row_ (K.e 0) else .non, μ) := by
  rw [run_eq g7 rfl]
  have e1 := limit_n (k := k) (w := .plain) S F h hm hv
  generalize K.e 0 = d at e1
  cases hl : lets K' .plain <;> rw [hl] at e1 <;> simp [start0, b7, evE, evEs, evO, evC, evF, evSrc, evIn, evS, evSs, Option.bind_some, Option.map_some, Option.bind_none, Option.map_none, List.map_cons, List.map_nil, slot_c0, slot_cs, own_c0, own_cs, ownv_c0, ownv_cs, ownt_c0, tup_c0, tup_cs, view_int, view_str, view_bl, view_non, view_tup, view_lst, view_ty, view_fn, p_bin, p_neg, p_cmp, p_ix, p_len_tup, p_len_lst, p_abs, p_int, p_intb, p_isi, p_tuple_tup, p_tuple_lst, p_max, p_min, b_add_int, b_sub_int, c_lt, c_le, c_gt, c_ge, c_eq, c_ne, ix_tup, ix_lst, at0, at1, at2, at3, at4, at5, eq_int, eq_str, eq_bl, truD, set_c0, set_cs, setS_c, isi_tuple_tup, isi_tuple_lst, isi_tuple_str, isi_tuple_int, isi_tuple_non, isi_tuple_bl, isi_str_str, isi_str_tup, isi_str_int, isi_str_non, isi_str_lst, isi_str_bl, if_true_, if_false_, S.n, no_limit, show ("plain" : Str) = Wd.plain.s from rfl, e1, retOf, row_, le_size]
theorem fresh (S : Sol μ n t l T L) (hl : L.length ≤ 1000) : run fs (k + 1) 5 [.ref n, .str w.s] μ = some ((Kd.v L.length).e 0, μ.set l (.lst (L ++ [.str w.s]))) := by
  rw [run_eq g5 rfl]
  have e6 := lst_at_ S.l
  have hln := at_lt S.n
  have hll := at_lt S.l
  have ne : l ≠ n := fun e => by have a := S.n; have b := S.l; rw [e] at b; rw [a] at b; cases b
  have e7 : (μ.set l (.lst (L ++ [.str w.s])))[n]? = some (.ins 0 [("told", .ref t), ("limits", .ref l)]) := by rw [set_off ne]; exact S.n
  simp [start0, b5, evE, evEs, evO, evC, evF, evSrc, evIn, evS, evSs, Option.bind_some, Option.map_some, Option.bind_none, Option.map_none, List.map_cons, List.map_nil, slot_c0, slot_cs, own_c0, own_cs, ownv_c0, ownv_cs, ownt_c0, tup_c0, tup_cs, view_int, view_str, view_bl, view_non, view_tup, view_lst, view_ty, view_fn, p_bin, p_neg, p_cmp, p_ix, p_len_tup, p_len_lst, p_abs, p_int, p_intb, p_isi, p_tuple_tup, p_tuple_lst, p_max, p_min, b_add_int, b_sub_int, c_lt, c_le, c_gt, c_ge, c_eq, c_ne, ix_tup, ix_lst, at0, at1, at2, at3, at4, at5, eq_int, eq_str, eq_bl, truD, set_c0, set_cs, setS_c, isi_tuple_tup, isi_tuple_lst, isi_tuple_str, isi_tuple_int, isi_tuple_non, isi_tuple_bl, isi_str_str, isi_str_tup, isi_str_int, isi_str_non, isi_str_lst, isi_str_bl, if_true_, if_false_, S.n, fld_lim, e6, e7, lt_size hl, view_set hll, retOf, Kd.e, some_, le_size]
end

/-! ### the net -/
structure Net (μ : Store) (n a m : Nat) (T M : List (Key × D)) (c : Int) : Prop where
  n : μ[n]? = some (.lst [.ref a, .ref m, .int c])
  a : μ[a]? = some (.dic T)
  m : μ[m]? = some (.dic M)
def LM (M : List (Key × D)) (lim : Nat → Option Wd) : Prop := ∀ i : Nat, getK M (.inl ((i : Int) + 1)) = (lim i).map fun w => D.str w.s
theorem find_map {k k' : Key} {v : D} : ∀ {T : List (Key × D)}, getK (T.map fun kv => if kv.1 = k then (kv.1, v) else kv) k' = if k' = k then (getK T k).map fun _ => v else getK T k'
  | [] => by simp [getK]
  | (x, y) :: T => by
    have ih := @find_map k k' v T
    unfold getK at ih ⊢
    by_cases h : x = k
    · subst h
      by_cases h' : k' = x
      · subst h'; simp
      · simp only [List.map_cons, if_true, List.find?_cons, h', if_false] at ih ⊢
        have h2 : ¬ x = k' := fun e => h' e.symm
        simp only [h2, decide_false]
        exact ih
    · by_cases h' : k' = k
      · subst h'
        have h2 : ¬ x = k' := h
        simp only [List.map_cons, h, if_false, List.find?_cons, h2, decide_false, if_true] at ih ⊢
        exact ih
      · simp only [List.map_cons, h, if_false, List.find?_cons, h'] at ih ⊢
        cases hx : decide (x = k') with
        | true => rfl
        | false => exact ih
theorem getK_none {T : List (Key × D)} {k : Key} : (T.any fun kv => decide (kv.1 = k)) = (getK T k).isSome := by
  unfold getK
  induction T with
  | nil => rfl
  | cons p T ih =>
    rw [List.any_cons, List.find?_cons]
    cases h : decide (p.1 = k) with
    | true => rfl
    | false => simpa using ih
theorem getK_app {T : List (Key × D)} {k k' : Key} {v : D} : getK (T ++ [(k, v)]) k' = match getK T k' with | some d => some d | none => if k' = k then some v else none := by
  unfold getK
  rw [List.find?_append]
  cases h : T.find? (fun kv => decide (kv.1 = k')) with
  | some p => rfl
  | none =>
    by_cases e : k' = k
    · subst e; simp
    · simp [e, show ¬ k = k' from fun z => e z.symm]
theorem getK_set {T : List (Key × D)} {k k' : Key} {v : D} : getK (setK T k v) k' = if k' = k then some v else getK T k' := by
  unfold setK
  rw [getK_none]
  cases h : getK T k with
  | some d =>
    simp only [Option.isSome_some, if_true]
    rw [find_map, h]; rfl
  | none =>
    simp only [Option.isSome_none, Bool.false_eq_true, if_false]
    rw [getK_app]
    by_cases e : k' = k
    · subst e; rw [h]
    · cases getK T k' <;> simp [e]
theorem setK_len {T : List (Key × D)} {k : Key} {v : D} : (setK T k v).length ≤ T.length + 1 := by
  unfold setK; split <;> simp
theorem find_w {w : Wd} : findI w.s ["any", "plain", "ordered"] = some w.r := by cases w <;> decide +kernel
theorem max_w {w w0 : Wd} : L2.atI [D.str "any", D.str "plain", D.str "ordered"] (if w.r < w0.r then (w0.r : Int) else (w.r : Int)) = some (.str (wmax w w0).s) := by
  cases w <;> cases w0 <;> exact by_same (by decide +kernel)
section
variable {k n a m' : Nat} {μ : Store} {T M : List (Key × D)} {c : Int} {f : Nat → Option Kd} {lim : Nat → Option Wd} {K K' : Kd} {w : Wd}
theorem llimit_v (S : Net μ n a m' T M c) (F : TM 1 T f) (hM : LM M lim) (hl : M.length < 1000) {u : Nat} {w0 : Wd} (h : Full f K (.v u)) (hu : lim u = some w0) :
    run fs (k + 3) 22 [.ref n, K.e 1, .str w.s] μ = some (.bl true, μ.set m' (.dic (setK M (.inl ((u : Int) + 1)) (.str (wmax w w0).s)))) := by
  rw [run_eq g22 rfl]
  have e1 := lfound (k := k) S.a F h
  have e3 : getK M (.inl ((u : Int) + 1)) = some (.str w0.s) := by rw [hM u, hu]; rfl
  have e5 := view_lstc S.n
  generalize K.e 1 = d at e1 ⊢
  simp only [Kd.e, some_] at e1
  simp [start0, b22, evE, evEs, evO, evC, evF, evSrc, evIn, evS, evSs, Option.bind_some, Option.map_some, Option.bind_none, Option.map_none, List.map_cons, List.map_nil, slot_c0, slot_cs, own_c0, own_cs, ownv_c0, ownv_cs, ownt_c0, tup_c0, tup_cs, view_int, view_str, view_bl, view_non, view_tup, view_lst, view_ty, view_fn, p_bin, p_neg, p_cmp, p_ix, p_len_tup, p_len_lst, p_abs, p_int, p_intb, p_isi, p_tuple_tup, p_tuple_lst, p_max, p_min, b_add_int, b_sub_int, c_lt, c_le, c_gt, c_ge, c_eq, c_ne, ix_tup, ix_lst, at0, at1, at2, at3, at4, at5, eq_int, eq_str, eq_bl, truD, set_c0, set_cs, setS_c, isi_tuple_tup, isi_tuple_lst, isi_tuple_str, isi_tuple_int, isi_tuple_non, isi_tuple_bl, isi_str_str, isi_str_tup, isi_str_int, isi_str_non, isi_str_lst, isi_str_bl, if_true_, if_false_, e5, e1, le_size, S.m, e3, keyD, strsD, find_w, max_w, lt_size (Nat.le_of_lt hl), retOf]
theorem llimit_n (S : Net μ n a m' T M c) (F : TM 1 T f) (h : Full f K K') (hv : K'.isV = false) : run fs (k + 3) 22 [.ref n, K.e 1, .str w.s] μ = some (.bl (lets K' w), μ) := by
  rw [run_eq g22 rfl]
  have e1 := lfound (k := k) S.a F h
  have e5 := view_lstc S.n
  have w1 : (w.s == ("any" : Str)) = (w == .any) := by cases w <;> decide +kernel
  have w2 : (w.s == ("plain" : Str)) = (w == .plain) := by cases w <;> decide +kernel
  generalize K.e 1 = d at e1 ⊢
  cases K' with
  | v u => cases hv
  | b s =>
    have w3 : cmpD .In (.str s.s) (.tup [.str "number", .str "text"]) = some (.bl (s != .tr)) := by cases s <;> exact by_same (by decide +kernel)
    simp only [Kd.e] at e1
    cases w <;> simp [start0, b22, evE, evEs, evO, evC, evF, evSrc, evIn, evS, evSs, Option.bind_some, Option.map_some, Option.bind_none, Option.map_none, List.map_cons, List.map_nil, slot_c0, slot_cs, own_c0, own_cs, ownv_c0, ownv_cs, ownt_c0, tup_c0, tup_cs, view_int, view_str, view_bl, view_non, view_tup, view_lst, view_ty, view_fn, p_bin, p_neg, p_cmp, p_ix, p_len_tup, p_len_lst, p_abs, p_int, p_intb, p_isi, p_tuple_tup, p_tuple_lst, p_max, p_min, b_add_int, b_sub_int, c_lt, c_le, c_gt, c_ge, c_eq, c_ne, ix_tup, ix_lst, at0, at1, at2, at3, at4, at5, eq_int, eq_str, eq_bl, truD, set_c0, set_cs, setS_c, isi_tuple_tup, isi_tuple_lst, isi_tuple_str, isi_tuple_int, isi_tuple_non, isi_tuple_bl, isi_str_str, isi_str_tup, isi_str_int, isi_str_non, isi_str_lst, isi_str_bl, if_true_, if_false_, e5, e1, le_size, w1, w2, w3, lets, retOf]
  | rb s =>
    simp only [Kd.e, row_] at e1
    cases w <;> simp [start0, b22, evE, evEs, evO, evC, evF, evSrc, evIn, evS, evSs, Option.bind_some, Option.map_some, Option.bind_none, Option.map_none, List.map_cons, List.map_nil, slot_c0, slot_cs, own_c0, own_cs, ownv_c0, ownv_cs, ownt_c0, tup_c0, tup_cs, view_int, view_str, view_bl, view_non, view_tup, view_lst, view_ty, view_fn, p_bin, p_neg, p_cmp, p_ix, p_len_tup, p_len_lst, p_abs, p_int, p_intb, p_isi, p_tuple_tup, p_tuple_lst, p_max, p_min, b_add_int, b_sub_int, c_lt, c_le, c_gt, c_ge, c_eq, c_ne, ix_tup, ix_lst, at0, at1, at2, at3, at4, at5, eq_int, eq_str, eq_bl, truD, set_c0, set_cs, setS_c, isi_tuple_tup, isi_tuple_lst, isi_tuple_str, isi_tuple_int, isi_tuple_non, isi_tuple_bl, isi_str_str, isi_str_tup, isi_str_int, isi_str_non, isi_str_lst, isi_str_bl, if_true_, if_false_, e5, e1, le_size, q2, w1, lets, retOf]
  | rv s =>
    simp only [Kd.e, row_, some_] at e1
    cases w <;> simp [start0, b22, evE, evEs, evO, evC, evF, evSrc, evIn, evS, evSs, Option.bind_some, Option.map_some, Option.bind_none, Option.map_none, List.map_cons, List.map_nil, slot_c0, slot_cs, own_c0, own_cs, ownv_c0, ownv_cs, ownt_c0, tup_c0, tup_cs, view_int, view_str, view_bl, view_non, view_tup, view_lst, view_ty, view_fn, p_bin, p_neg, p_cmp, p_ix, p_len_tup, p_len_lst, p_abs, p_int, p_intb, p_isi, p_tuple_tup, p_tuple_lst, p_max, p_min, b_add_int, b_sub_int, c_lt, c_le, c_gt, c_ge, c_eq, c_ne, ix_tup, ix_lst, at0, at1, at2, at3, at4, at5, eq_int, eq_str, eq_bl, truD, set_c0, set_cs, setS_c, isi_tuple_tup, isi_tuple_lst, isi_tuple_str, isi_tuple_int, isi_tuple_non, isi_tuple_bl, isi_str_str, isi_str_tup, isi_str_int, isi_str_non, isi_str_lst, isi_str_bl, if_true_, if_false_, e5, e1, le_size, q2, w1, lets, retOf]
theorem lfresh (S : Net μ n a m' T M c) (hl : M.length < 1000) : run fs (k + 1) 23 [.ref n, .str w.s] μ = some (some_ (c + 1), (μ.set n (.lst [.ref a, .ref m', .int (c + 1)])).set m' (.dic (setK M (.inl (c + 1)) (.str w.s)))) := by
  rw [run_eq g23 rfl]
  have e5 := view_lstc S.n
  have e6 := lst_at_ S.n
  have hn := at_lt S.n
  have ne : n ≠ m' := fun e => by have x := S.n; have y := S.m; rw [← e] at y; rw [x] at y; cases y
  have e7 : (μ.set n (.lst [.ref a, .ref m', .int (c + 1)]))[m']? = some (.dic M) := by rw [set_off ne]; exact S.m
  have e8 : ((μ.set n (.lst [.ref a, .ref m', .int (c + 1)])).set m' (.dic (setK M (.inl (c + 1)) (.str w.s))))[n]? = some (.lst [.ref a, .ref m', .int (c + 1)]) := by
    rw [set_off (Ne.symm ne), set_at S.n]
  simp [start0, b23, evE, evEs, evO, evC, evF, evSrc, evIn, evS, evSs, Option.bind_some, Option.map_some, Option.bind_none, Option.map_none, List.map_cons, List.map_nil, slot_c0, slot_cs, own_c0, own_cs, ownv_c0, ownv_cs, ownt_c0, tup_c0, tup_cs, view_int, view_str, view_bl, view_non, view_tup, view_lst, view_ty, view_fn, p_bin, p_neg, p_cmp, p_ix, p_len_tup, p_len_lst, p_abs, p_int, p_intb, p_isi, p_tuple_tup, p_tuple_lst, p_max, p_min, b_add_int, b_sub_int, c_lt, c_le, c_gt, c_ge, c_eq, c_ne, ix_tup, ix_lst, at0, at1, at2, at3, at4, at5, eq_int, eq_str, eq_bl, truD, set_c0, set_cs, setS_c, isi_tuple_tup, isi_tuple_lst, isi_tuple_str, isi_tuple_int, isi_tuple_non, isi_tuple_bl, isi_str_str, isi_str_tup, isi_str_int, isi_str_non, isi_str_lst, isi_str_bl, if_true_, if_false_, e5, e6, ixN, view_set hn, e7, view_lstc e8, keyD, lt_size (Nat.le_of_lt hl), le_size, retOf, some_]
end
end FH.K06
end
section
namespace FH.K06
open PySem PySem.Spec PyProof.Rows L2
theorem g9 : fs[9]? = some ⟨3, 3, b9⟩ := rfl
theorem g10 : fs[10]? = some ⟨3, 3, b10⟩ := rfl
theorem g11 : fs[11]? = some ⟨2, 2, b11⟩ := rfl
theorem g20 : fs[20]? = some ⟨3, 6, b20⟩ := rfl
theorem g21 : fs[21]? = some ⟨2, 2, b21⟩ := rfl
theorem s_inj {s s' : Bs} : (s.s == s'.s) = decide (s = s') := by cases s <;> cases s' <;> decide +kernel
theorem sh_some {i : Int} : SeqAt.shaped (.tuple [.str "some", .int i]) = true := by
  have : PyData.strOk ("some" : Str) = true := by decide +kernel
  simp [SeqAt.shaped, PyData.canLay0, PyData.canLayAll0, PyData.depth, PyData.depthAll, this]
theorem sh_rs {i : Int} : SeqAt.shaped (.tuple [.str "row", .tuple [.str "some", .int i]]) = true := by
  have : PyData.strOk ("some" : Str) = true := by decide +kernel
  have h : PyData.strOk ("row" : Str) = true := by decide +kernel
  simp [SeqAt.shaped, PyData.canLay0, PyData.canLayAll0, PyData.depth, PyData.depthAll, this, h]
theorem sh_rb {s : Bs} : SeqAt.shaped (.tuple [.str "row", .str s.s]) = true := by
  have : PyData.strOk s.s = true := by cases s <;> decide +kernel
  have h : PyData.strOk ("row" : Str) = true := by decide +kernel
  simp [SeqAt.shaped, PyData.canLay0, PyData.canLayAll0, PyData.depth, PyData.depthAll, this, h]
theorem sh_b {s : Bs} : SeqAt.shaped (.str s.s) = true := by
  have : PyData.strOk s.s = true := by cases s <;> decide +kernel
  simp [SeqAt.shaped, PyData.canLay0, PyData.depth, this]
theorem eq_K {o : Int} {K K' : Kd} : eqD (K.e o) (K'.e o) = some (decide (K = K')) := by
  cases K <;> cases K' <;>
    simp [eqD, Kd.e, some_, row_, D.flat, eqF, D.py, pyL, sh_some, sh_rs, sh_rb, sh_b, PyData.eqv, PyData.eqvAll, s_inj, q1, q2] <;> (rw [Bool.eq_iff_iff]; simp <;> omega)

/-! ### tell -/
def upf (f : Nat → Option Kd) (u : Nat) (K : Kd) : Nat → Option Kd := fun i => if i = u then some K else f i
def upl (lim : Nat → Option Wd) (u : Nat) (w : Wd) : Nat → Option Wd := fun i => if i = u then some w else lim i
theorem TM.set {o : Int} {T : List (Key × D)} {f : Nat → Option Kd} (h : TM o T f) (u : Nat) (K : Kd) : TM o (setK T (.inl ((u : Int) + o)) (K.e o)) (upf f u K) := fun i => by
  rw [getK_set]
  unfold upf
  by_cases e : i = u
  · subst e; simp
  · have : ¬ ((Sum.inl ((i : Int) + o) : Key) = Sum.inl ((u : Int) + o)) := fun z => by
      have := Sum.inl.inj z; omega
    rw [if_neg this, if_neg e]; exact h i
theorem LL.set {L : List D} {lim : Nat → Option Wd} (h : LL L lim) {u : Nat} {w0 : Wd} (hu : lim u = some w0) (w : Wd) : LL (L.set u (.str w.s)) (upl lim u w) := fun i => by
  unfold upl
  have hl : u < L.length := by
    have := h u; rw [hu] at this
    exact (List.getElem?_eq_some_iff.mp this).1
  by_cases e : i = u
  · subst e; simp [hl]
  · rw [List.getElem?_set_ne (Ne.symm e), if_neg e]; exact h i
theorem LM.set {M : List (Key × D)} {lim : Nat → Option Wd} (h : LM M lim) (u : Nat) (w : Wd) : LM (setK M (.inl ((u : Int) + 1)) (.str w.s)) (upl lim u w) := fun i => by
  rw [getK_set]
  unfold upl
  by_cases e : i = u
  · subst e; simp
  · have : ¬ ((Sum.inl ((i : Int) + 1) : Key) = Sum.inl ((u : Int) + 1)) := fun z => by
      have := Sum.inl.inj z; omega
    rw [if_neg this, if_neg e]; exact h i
theorem upl_self {lim : Nat → Option Wd} {u : Nat} {w : Wd} (h : lim u = some w) : upl lim u w = lim := by
  funext i; unfold upl; split
  · rename_i e; rw [e, h]
  · rfl
/-- what tell comes to: its answer, the bindings, the limits -/
def tellB (lim : Nat → Option Wd) (u : Nat) (wu : Wd) : Kd → Bool
  | .v _ => true
  | K => lets K wu
section
variable {k n t l : Nat} {μ : Store} {T : List (Key × D)} {L : List D} {f : Nat → Option Kd} {lim : Nat → Option Wd} {w : Wd}
theorem Sol.ne (S : Sol μ n t l T L) : t ≠ n ∧ l ≠ n ∧ t ≠ l := by
  have a := S.n; have b := S.t; have c := S.l
  refine ⟨fun e => ?_, fun e => ?_, fun e => ?_⟩
  · rw [e] at b; rw [a] at b; cases b
  · rw [e] at c; rw [a] at c; cases c
  · rw [e] at b; rw [b] at c; cases c
theorem Sol.setT (S : Sol μ n t l T L) (T' : List (Key × D)) : Sol (μ.set t (.dic T')) n t l T' L :=
  ⟨by rw [set_off S.ne.1]; exact S.n, set_at S.t, by rw [set_off S.ne.2.2]; exact S.l⟩
theorem Sol.setL (S : Sol μ n t l T L) (L' : List D) : Sol (μ.set l (.lst L')) n t l T L' :=
  ⟨by rw [set_off S.ne.2.1]; exact S.n, by rw [set_off (Ne.symm S.ne.2.2)]; exact S.t, set_at S.l⟩
theorem lim_at (hL : LL L lim) {u : Nat} {wu : Wd} (hu : lim u = some wu) : L2.atI L (u : Int) = some (.str wu.s) := atI_nat (by rw [hL u, hu]; rfl)
theorem tell_same (S : Sol μ n t l T L) (F : TM 0 T f) (hL : LL L lim) {u : Nat} {wu : Wd} (hf : f u = none) (hu : lim u = some wu) :
    run fs (k + 4) 9 [.ref n, (Kd.v u).e 0, (Kd.v u).e 0] μ = some (.bl true, μ) := by
  rw [run_eq g9 rfl]
  have e1 := is_some (k := k + 2) (o := 0) (K := .v u) (μ := μ)
  have e2 : eqD ((Kd.v u).e 0) ((Kd.v u).e 0) = some true := by rw [eq_K]; simp
  have e3 := limit_v (k := k) (w := wu) S F hL (K := .v u) (m := 0) (.stop hf) (by decide) hu
  have e4 : wmax wu wu = wu := by unfold wmax; split <;> rfl
  have e5 : μ.set l (.lst (L.set u (.str wu.s))) = μ := by
    have h := hL u; rw [hu] at h
    obtain ⟨h1, h2⟩ := List.getElem?_eq_some_iff.mp h
    have : L.set u (.str wu.s) = L := by
      have h2 : L[u] = .str wu.s := h2
      rw [← h2]; exact List.set_getElem_self h1
    rw [this]; exact set_same S.l
  rw [e4, e5] at e3
  have e6 := view_lstc S.l
  have e7 := lim_at hL hu
  simp only [Kd.e, some_, Int.add_zero, Kd.isV] at e1 e2 e3
  simp [start0, b9, evE, evEs, evO, evC, evF, evSrc, evIn, evS, evSs, Option.bind_some, Option.map_some, Option.bind_none, Option.map_none, List.map_cons, List.map_nil, slot_c0, slot_cs, own_c0, own_cs, ownv_c0, ownv_cs, ownt_c0, tup_c0, tup_cs, view_int, view_str, view_bl, view_non, view_tup, view_lst, view_ty, view_fn, p_bin, p_neg, p_cmp, p_ix, p_len_tup, p_len_lst, p_abs, p_int, p_intb, p_isi, p_tuple_tup, p_tuple_lst, p_max, p_min, b_add_int, b_sub_int, c_lt, c_le, c_gt, c_ge, c_eq, c_ne, ix_tup, ix_lst, at0, at1, at2, at3, at4, at5, eq_int, eq_str, eq_bl, truD, set_c0, set_cs, setS_c, isi_tuple_tup, isi_tuple_lst, isi_tuple_str, isi_tuple_int, isi_tuple_non, isi_tuple_bl, isi_str_str, isi_str_tup, isi_str_int, isi_str_non, isi_str_lst, isi_str_bl, if_true_, if_false_, Kd.e, some_, S.n, no_limit, fld_lim, e1, e2, e3, e6, e7, retOf]
theorem tell_var (S : Sol μ n t l T L) (F : TM 0 T f) (hL : LL L lim) (hT : T.length < 1000) {u v : Nat} {wu wv : Wd} (hf : f v = none) (huv : v ≠ u) (hu : lim u = some wu) (hv : lim v = some wv) :
    run fs (k + 4) 9 [.ref n, (Kd.v u).e 0, (Kd.v v).e 0] μ = some (.bl true, (μ.set t (.dic (setK T (.inl (u : Int)) ((Kd.v v).e 0)))).set l (.lst (L.set v (.str (wmax wu wv).s)))) := by
  rw [run_eq g9 rfl]
  have e1 := is_some (k := k + 2) (o := 0) (K := .v v) (μ := μ)
  have e2 : eqD ((Kd.v v).e 0) ((Kd.v u).e 0) = some false := by rw [eq_K]; simp [huv]
  have S' := S.setT (setK T (.inl (u : Int)) ((Kd.v v).e 0))
  have F' : TM 0 (setK T (.inl (u : Int)) ((Kd.v v).e 0)) (upf f u (.v v)) := by have := F.set u (.v v); simpa using this
  have hf' : upf f u (.v v) v = none := by unfold upf; rw [if_neg huv]; exact hf
  have e3 := limit_v (k := k) (w := wu) S' F' hL (K := .v v) (m := 0) (.stop hf') (by decide) hv
  have e6 := view_lstc S'.l
  have e7 := lim_at hL hu
  simp only [Kd.e, some_, Int.add_zero, Kd.isV] at e1 e2 e3 e6
  have sn := S'.n
  simp only [Kd.e, some_, Int.add_zero] at sn
  simp [start0, b9, evE, evEs, evO, evC, evF, evSrc, evIn, evS, evSs, Option.bind_some, Option.map_some, Option.bind_none, Option.map_none, List.map_cons, List.map_nil, slot_c0, slot_cs, own_c0, own_cs, ownv_c0, ownv_cs, ownt_c0, tup_c0, tup_cs, view_int, view_str, view_bl, view_non, view_tup, view_lst, view_ty, view_fn, p_bin, p_neg, p_cmp, p_ix, p_len_tup, p_len_lst, p_abs, p_int, p_intb, p_isi, p_tuple_tup, p_tuple_lst, p_max, p_min, b_add_int, b_sub_int, c_lt, c_le, c_gt, c_ge, c_eq, c_ne, ix_tup, ix_lst, at0, at1, at2, at3, at4, at5, eq_int, eq_str, eq_bl, truD, set_c0, set_cs, setS_c, isi_tuple_tup, isi_tuple_lst, isi_tuple_str, isi_tuple_int, isi_tuple_non, isi_tuple_bl, isi_str_str, isi_str_tup, isi_str_int, isi_str_non, isi_str_lst, isi_str_bl, if_true_, if_false_, Kd.e, some_, S.n, S.t, sn, no_limit, fld_lim, fld_told, keyD, lt_size (Nat.le_of_lt hT), e1, e2, e3, e6, e7, retOf]
theorem tell_nonv (S : Sol μ n t l T L) (hL : LL L lim) (hT : T.length < 1000) {u : Nat} {K : Kd} {wu : Wd} (hv : K.isV = false) (hu : lim u = some wu) :
    run fs (k + 4) 9 [.ref n, (Kd.v u).e 0, K.e 0] μ = some (.bl (lets K wu), μ.set t (.dic (setK T (.inl (u : Int)) (K.e 0)))) := by
  rw [run_eq g9 rfl]
  have e1 := is_some (k := k + 2) (o := 0) (K := K) (μ := μ)
  rw [hv] at e1
  have S' := S.setT (setK T (.inl (u : Int)) (K.e 0))
  have e3 := is_let (k := k + 2) (o := 0) (K := K) (w := wu) (μ := μ.set t (.dic (setK T (.inl (u : Int)) (K.e 0))))
  have e6 := view_lstc S'.l
  have e7 := lim_at hL hu
  have sn := S'.n
  generalize K.e 0 = d at *
  simp [start0, b9, evE, evEs, evO, evC, evF, evSrc, evIn, evS, evSs, Option.bind_some, Option.map_some, Option.bind_none, Option.map_none, List.map_cons, List.map_nil, slot_c0, slot_cs, own_c0, own_cs, ownv_c0, ownv_cs, ownt_c0, tup_c0, tup_cs, view_int, view_str, view_bl, view_non, view_tup, view_lst, view_ty, view_fn, p_bin, p_neg, p_cmp, p_ix, p_len_tup, p_len_lst, p_abs, p_int, p_intb, p_isi, p_tuple_tup, p_tuple_lst, p_max, p_min, b_add_int, b_sub_int, c_lt, c_le, c_gt, c_ge, c_eq, c_ne, ix_tup, ix_lst, at0, at1, at2, at3, at4, at5, eq_int, eq_str, eq_bl, truD, set_c0, set_cs, setS_c, isi_tuple_tup, isi_tuple_lst, isi_tuple_str, isi_tuple_int, isi_tuple_non, isi_tuple_bl, isi_str_str, isi_str_tup, isi_str_int, isi_str_non, isi_str_lst, isi_str_bl, if_true_, if_false_, Kd.e, some_, S.n, S.t, sn, fld_lim, fld_told, keyD, lt_size (Nat.le_of_lt hT), e1, e3, e6, e7, retOf]
end
end FH.K06
end
section
namespace FH.K06
open PySem PySem.Spec PyProof.Rows L2
section
variable {k n t l : Nat} {μ : Store} {T : List (Key × D)} {L : List D} {f : Nat → Option Kd} {lim : Nat → Option Wd} {A B K1 K2 : Kd} {m1 m2 : Nat} {r : D × Store}
theorem unify_1 (S : Sol μ n t l T L) (F : TM 0 T f) {u : Nat} (h1 : Sh f A m1 (.v u)) (b1 : m1 < 1000) (h2 : Sh f B m2 K2) (b2 : m2 < 1000) (e : run fs (k + 4) 9 [.ref n, (Kd.v u).e 0, K2.e 0] μ = some r) :
    run fs (k + 5) 10 [.ref n, A.e 0, B.e 0] μ = some r := by
  rw [run_eq g10 rfl]
  have e1 := found (k := k + 2) S F h1 b1
  have e2 := found (k := k + 2) S F h2 b2
  have e3 := is_some (k := k + 3) (o := 0) (K := .v u) (μ := μ)
  generalize A.e 0 = a at e1 ⊢
  generalize B.e 0 = b at e2 ⊢
  generalize K2.e 0 = d2 at e2 e
  generalize (Kd.v u).e 0 = d1 at e1 e3 e
  simp only [Kd.isV] at e3
  obtain ⟨r1, r2⟩ := r
  simp [start0, b10, evE, evEs, evO, evC, evF, evSrc, evIn, evS, evSs, Option.bind_some, Option.map_some, Option.bind_none, Option.map_none, List.map_cons, List.map_nil, slot_c0, slot_cs, own_c0, own_cs, ownv_c0, ownv_cs, ownt_c0, tup_c0, tup_cs, view_int, view_str, view_bl, view_non, view_tup, view_lst, view_ty, view_fn, p_bin, p_neg, p_cmp, p_ix, p_len_tup, p_len_lst, p_abs, p_int, p_intb, p_isi, p_tuple_tup, p_tuple_lst, p_max, p_min, b_add_int, b_sub_int, c_lt, c_le, c_gt, c_ge, c_eq, c_ne, ix_tup, ix_lst, at0, at1, at2, at3, at4, at5, eq_int, eq_str, eq_bl, truD, set_c0, set_cs, setS_c, isi_tuple_tup, isi_tuple_lst, isi_tuple_str, isi_tuple_int, isi_tuple_non, isi_tuple_bl, isi_str_str, isi_str_tup, isi_str_int, isi_str_non, isi_str_lst, isi_str_bl, if_true_, if_false_, S.n, no_found, no_tell, e1, e2, e3, e, retOf]
theorem unify_2 (S : Sol μ n t l T L) (F : TM 0 T f) {u : Nat} (h1 : Sh f A m1 K1) (b1 : m1 < 1000) (h2 : Sh f B m2 (.v u)) (b2 : m2 < 1000) (nv : K1.isV = false) (e : run fs (k + 4) 9 [.ref n, (Kd.v u).e 0, K1.e 0] μ = some r) :
    run fs (k + 5) 10 [.ref n, A.e 0, B.e 0] μ = some r := by
  rw [run_eq g10 rfl]
  have e1 := found (k := k + 2) S F h1 b1
  have e2 := found (k := k + 2) S F h2 b2
  have e3 := is_some (k := k + 3) (o := 0) (K := K1) (μ := μ)
  have e4 := is_some (k := k + 3) (o := 0) (K := .v u) (μ := μ)
  rw [nv] at e3
  generalize A.e 0 = a at e1 ⊢
  generalize B.e 0 = b at e2 ⊢
  generalize K1.e 0 = d1 at e1 e3 e
  generalize (Kd.v u).e 0 = d2 at e2 e4 e
  simp only [Kd.isV] at e4
  obtain ⟨r1, r2⟩ := r
  simp [start0, b10, evE, evEs, evO, evC, evF, evSrc, evIn, evS, evSs, Option.bind_some, Option.map_some, Option.bind_none, Option.map_none, List.map_cons, List.map_nil, slot_c0, slot_cs, own_c0, own_cs, ownv_c0, ownv_cs, ownt_c0, tup_c0, tup_cs, view_int, view_str, view_bl, view_non, view_tup, view_lst, view_ty, view_fn, p_bin, p_neg, p_cmp, p_ix, p_len_tup, p_len_lst, p_abs, p_int, p_intb, p_isi, p_tuple_tup, p_tuple_lst, p_max, p_min, b_add_int, b_sub_int, c_lt, c_le, c_gt, c_ge, c_eq, c_ne, ix_tup, ix_lst, at0, at1, at2, at3, at4, at5, eq_int, eq_str, eq_bl, truD, set_c0, set_cs, setS_c, isi_tuple_tup, isi_tuple_lst, isi_tuple_str, isi_tuple_int, isi_tuple_non, isi_tuple_bl, isi_str_str, isi_str_tup, isi_str_int, isi_str_non, isi_str_lst, isi_str_bl, if_true_, if_false_, S.n, no_found, no_tell, e1, e2, e3, e4, e, retOf]
theorem unify_3 (S : Sol μ n t l T L) (F : TM 0 T f) {a b : D} (h1 : Sh f A m1 K1) (b1 : m1 < 1000) (h2 : Sh f B m2 K2) (b2 : m2 < 1000) (n1 : K1.isV = false) (n2 : K2.isV = false) (q1 : K1.e 0 = row_ a) (q2 : K2.e 0 = row_ b) (e : run fs (k + 4) 10 [.ref n, a, b] μ = some r) :
    run fs (k + 5) 10 [.ref n, A.e 0, B.e 0] μ = some r := by
  rw [run_eq g10 rfl]
  have e1 := found (k := k + 2) S F h1 b1
  have e2 := found (k := k + 2) S F h2 b2
  have e3 := is_some (k := k + 3) (o := 0) (K := K1) (μ := μ)
  have e4 := is_some (k := k + 3) (o := 0) (K := K2) (μ := μ)
  rw [n1] at e3
  rw [n2] at e4
  rw [q1] at e1 e3
  rw [q2] at e2 e4
  generalize A.e 0 = x at e1 ⊢
  generalize B.e 0 = y at e2 ⊢
  unfold row_ at e1 e2 e3 e4
  obtain ⟨r1, r2⟩ := r
  simp [start0, b10, evE, evEs, evO, evC, evF, evSrc, evIn, evS, evSs, Option.bind_some, Option.map_some, Option.bind_none, Option.map_none, List.map_cons, List.map_nil, slot_c0, slot_cs, own_c0, own_cs, ownv_c0, ownv_cs, ownt_c0, tup_c0, tup_cs, view_int, view_str, view_bl, view_non, view_tup, view_lst, view_ty, view_fn, p_bin, p_neg, p_cmp, p_ix, p_len_tup, p_len_lst, p_abs, p_int, p_intb, p_isi, p_tuple_tup, p_tuple_lst, p_max, p_min, b_add_int, b_sub_int, c_lt, c_le, c_gt, c_ge, c_eq, c_ne, ix_tup, ix_lst, at0, at1, at2, at3, at4, at5, eq_int, eq_str, eq_bl, truD, set_c0, set_cs, setS_c, isi_tuple_tup, isi_tuple_lst, isi_tuple_str, isi_tuple_int, isi_tuple_non, isi_tuple_bl, isi_str_str, isi_str_tup, isi_str_int, isi_str_non, isi_str_lst, isi_str_bl, if_true_, if_false_, S.n, no_found, no_unify, e1, e2, e3, e4, e, retOf]
theorem unify_4 (S : Sol μ n t l T L) (F : TM 0 T f) (h1 : Sh f A m1 K1) (b1 : m1 < 1000) (h2 : Sh f B m2 K2) (b2 : m2 < 1000) (n1 : K1.isV = false) (n2 : K2.isV = false) (nr : K1.isR = false ∨ K2.isR = false) :
    run fs (k + 5) 10 [.ref n, A.e 0, B.e 0] μ = some (.bl (decide (K1 = K2)), μ) := by
  rw [run_eq g10 rfl]
  have e1 := found (k := k + 2) S F h1 b1
  have e2 := found (k := k + 2) S F h2 b2
  have e3 := is_some (k := k + 3) (o := 0) (K := K1) (μ := μ)
  have e4 := is_some (k := k + 3) (o := 0) (K := K2) (μ := μ)
  have e5 := eq_K (o := 0) (K := K1) (K' := K2)
  rw [n1] at e3
  rw [n2] at e4
  generalize A.e 0 = x at e1 ⊢
  generalize B.e 0 = y at e2 ⊢
  cases K1 <;> cases K2 <;> simp only [Kd.isV, Kd.isR, Bool.true_eq_false, or_self, or_false, false_or, reduceCtorEq] at n1 n2 nr
  all_goals (simp only [Kd.e, row_, some_, Int.add_zero] at e1 e2 e3 e4 e5; simp [start0, b10, evE, evEs, evO, evC, evF, evSrc, evIn, evS, evSs, Option.bind_some, Option.map_some, Option.bind_none, Option.map_none, List.map_cons, List.map_nil, slot_c0, slot_cs, own_c0, own_cs, ownv_c0, ownv_cs, ownt_c0, tup_c0, tup_cs, view_int, view_str, view_bl, view_non, view_tup, view_lst, view_ty, view_fn, p_bin, p_neg, p_cmp, p_ix, p_len_tup, p_len_lst, p_abs, p_int, p_intb, p_isi, p_tuple_tup, p_tuple_lst, p_max, p_min, b_add_int, b_sub_int, c_lt, c_le, c_gt, c_ge, c_eq, c_ne, ix_tup, ix_lst, at0, at1, at2, at3, at4, at5, eq_int, eq_str, eq_bl, truD, set_c0, set_cs, setS_c, isi_tuple_tup, isi_tuple_lst, isi_tuple_str, isi_tuple_int, isi_tuple_non, isi_tuple_bl, isi_str_str, isi_str_tup, isi_str_int, isi_str_non, isi_str_lst, isi_str_bl, if_true_, if_false_, S.n, no_found, e1, e2, e3, e4, e5, retOf])
theorem led (S : Sol μ n t l T L) (F : TM 0 T f) {K K' : Kd} (h : Full f K K') : run fs (k + 4) 11 [.ref n, K.e 0] μ = some (K'.e 0, μ) := by
  have flat : ∀ {k : Nat} {K K' : Kd} {m : Nat}, Sh f K m K' → m < 1000 → K'.isR = false → run fs (k + 3) 11 [.ref n, K.e 0] μ = some (K'.e 0, μ) := by
    intro k K K' m h hm hr
    rw [run_eq g11 rfl]
    have e1 := found (k := k) S F h hm
    generalize K.e 0 = d at e1 ⊢
    cases K' with
    | b s =>
      obtain ⟨z, w1, w2, w3⟩ := bs_ix (s := s)
      simp only [Kd.e] at e1
      simp [start0, b11, evE, evEs, evO, evC, evF, evSrc, evIn, evS, evSs, Option.bind_some, Option.map_some, Option.bind_none, Option.map_none, List.map_cons, List.map_nil, slot_c0, slot_cs, own_c0, own_cs, ownv_c0, ownv_cs, ownt_c0, tup_c0, tup_cs, view_int, view_str, view_bl, view_non, view_tup, view_lst, view_ty, view_fn, p_bin, p_neg, p_cmp, p_ix, p_len_tup, p_len_lst, p_abs, p_int, p_intb, p_isi, p_tuple_tup, p_tuple_lst, p_max, p_min, b_add_int, b_sub_int, c_lt, c_le, c_gt, c_ge, c_eq, c_ne, ix_tup, ix_lst, at0, at1, at2, at3, at4, at5, eq_int, eq_str, eq_bl, truD, set_c0, set_cs, setS_c, isi_tuple_tup, isi_tuple_lst, isi_tuple_str, isi_tuple_int, isi_tuple_non, isi_tuple_bl, isi_str_str, isi_str_tup, isi_str_int, isi_str_non, isi_str_lst, isi_str_bl, if_true_, if_false_, S.n, no_found, e1, w1, w3, retOf, Kd.e]
    | v u =>
      simp only [Kd.e, some_] at e1
      simp [start0, b11, evE, evEs, evO, evC, evF, evSrc, evIn, evS, evSs, Option.bind_some, Option.map_some, Option.bind_none, Option.map_none, List.map_cons, List.map_nil, slot_c0, slot_cs, own_c0, own_cs, ownv_c0, ownv_cs, ownt_c0, tup_c0, tup_cs, view_int, view_str, view_bl, view_non, view_tup, view_lst, view_ty, view_fn, p_bin, p_neg, p_cmp, p_ix, p_len_tup, p_len_lst, p_abs, p_int, p_intb, p_isi, p_tuple_tup, p_tuple_lst, p_max, p_min, b_add_int, b_sub_int, c_lt, c_le, c_gt, c_ge, c_eq, c_ne, ix_tup, ix_lst, at0, at1, at2, at3, at4, at5, eq_int, eq_str, eq_bl, truD, set_c0, set_cs, setS_c, isi_tuple_tup, isi_tuple_lst, isi_tuple_str, isi_tuple_int, isi_tuple_non, isi_tuple_bl, isi_str_str, isi_str_tup, isi_str_int, isi_str_non, isi_str_lst, isi_str_bl, if_true_, if_false_, S.n, no_found, e1, q1, retOf, Kd.e, some_]
    | rb _ => cases hr
    | rv _ => cases hr
  have go : ∀ {m : Nat} {K1 : Kd} (R R' : Kd), Sh f K m K1 → m < 1000 → K1.e 0 = row_ (R.e 0) → run fs (k + 3) 11 [.ref n, R.e 0] μ = some (R'.e 0, μ) → run fs (k + 4) 11 [.ref n, K.e 0] μ = some (row_ (R'.e 0), μ) := by
    intro m K1 R R' h hm e h2
    rw [run_eq g11 rfl]
    have e1 := found (k := k + 1) S F h hm
    rw [e] at e1
    generalize K.e 0 = d at e1 ⊢
    generalize R.e 0 = r at e1 h2
    generalize R'.e 0 = r' at h2 ⊢
    unfold row_ at e1
    simp [start0, b11, evE, evEs, evO, evC, evF, evSrc, evIn, evS, evSs, Option.bind_some, Option.map_some, Option.bind_none, Option.map_none, List.map_cons, List.map_nil, slot_c0, slot_cs, own_c0, own_cs, ownv_c0, ownv_cs, ownt_c0, tup_c0, tup_cs, view_int, view_str, view_bl, view_non, view_tup, view_lst, view_ty, view_fn, p_bin, p_neg, p_cmp, p_ix, p_len_tup, p_len_lst, p_abs, p_int, p_intb, p_isi, p_tuple_tup, p_tuple_lst, p_max, p_min, b_add_int, b_sub_int, c_lt, c_le, c_gt, c_ge, c_eq, c_ne, ix_tup, ix_lst, at0, at1, at2, at3, at4, at5, eq_int, eq_str, eq_bl, truD, set_c0, set_cs, setS_c, isi_tuple_tup, isi_tuple_lst, isi_tuple_str, isi_tuple_int, isi_tuple_non, isi_tuple_bl, isi_str_str, isi_str_tup, isi_str_int, isi_str_non, isi_str_lst, isi_str_bl, if_true_, if_false_, S.n, no_found, no_led, e1, h2, le_size, retOf, row_]
  cases h with
  | flat h1 h2 h3 => exact flat h1 h2 h3
  | @rb m z h1 h2 => exact go (.b z) (.b z) h1 h2 rfl (flat (K := .b z) (K' := .b z) (m := 0) ⟨rfl, rfl⟩ (by decide) rfl)
  | @rv m j m2 w h1 h2 h3 h4 => exact go (.v j) (.v w) h1 h2 rfl (flat (K := .v j) h3 h4 rfl)
  | @rvb m j m2 z h1 h2 h3 h4 => exact go (.v j) (.b z) h1 h2 rfl (flat (K := .v j) h3 h4 rfl)
end
end FH.K06
end
section
namespace FH.K06
open PySem PySem.Spec PyProof.Rows L2
section
variable {k n a m' : Nat} {μ : Store} {T M : List (Key × D)} {c : Int} {f : Nat → Option Kd} {lim : Nat → Option Wd} {A B F1 F2 : Kd} {w : Wd} {r : D × Store}
theorem stands {u : Nat} {F : Kd} : run fs (k + 2) 21 [(Kd.v u).e 1, F.e 1] μ = some (.bl (decide (F = .rv u)), μ) := by
  have inner : ∀ G : Kd, G.isR = false → run fs (k + 1) 21 [(Kd.v u).e 1, G.e 1] μ = some (.bl false, μ) := by
    intro G hG
    rw [run_eq g21 rfl]
    cases G with
    | b z => simp [start0, b21, evE, evEs, evO, evC, evF, evSrc, evIn, evS, evSs, Option.bind_some, Option.map_some, Option.bind_none, Option.map_none, List.map_cons, List.map_nil, slot_c0, slot_cs, own_c0, own_cs, ownv_c0, ownv_cs, ownt_c0, tup_c0, tup_cs, view_int, view_str, view_bl, view_non, view_tup, view_lst, view_ty, view_fn, p_bin, p_neg, p_cmp, p_ix, p_len_tup, p_len_lst, p_abs, p_int, p_intb, p_isi, p_tuple_tup, p_tuple_lst, p_max, p_min, b_add_int, b_sub_int, c_lt, c_le, c_gt, c_ge, c_eq, c_ne, ix_tup, ix_lst, at0, at1, at2, at3, at4, at5, eq_int, eq_str, eq_bl, truD, set_c0, set_cs, setS_c, isi_tuple_tup, isi_tuple_lst, isi_tuple_str, isi_tuple_int, isi_tuple_non, isi_tuple_bl, isi_str_str, isi_str_tup, isi_str_int, isi_str_non, isi_str_lst, isi_str_bl, if_true_, if_false_, Kd.e, retOf]
    | v i => simp [start0, b21, evE, evEs, evO, evC, evF, evSrc, evIn, evS, evSs, Option.bind_some, Option.map_some, Option.bind_none, Option.map_none, List.map_cons, List.map_nil, slot_c0, slot_cs, own_c0, own_cs, ownv_c0, ownv_cs, ownt_c0, tup_c0, tup_cs, view_int, view_str, view_bl, view_non, view_tup, view_lst, view_ty, view_fn, p_bin, p_neg, p_cmp, p_ix, p_len_tup, p_len_lst, p_abs, p_int, p_intb, p_isi, p_tuple_tup, p_tuple_lst, p_max, p_min, b_add_int, b_sub_int, c_lt, c_le, c_gt, c_ge, c_eq, c_ne, ix_tup, ix_lst, at0, at1, at2, at3, at4, at5, eq_int, eq_str, eq_bl, truD, set_c0, set_cs, setS_c, isi_tuple_tup, isi_tuple_lst, isi_tuple_str, isi_tuple_int, isi_tuple_non, isi_tuple_bl, isi_str_str, isi_str_tup, isi_str_int, isi_str_non, isi_str_lst, isi_str_bl, if_true_, if_false_, Kd.e, some_, q1, retOf]
    | rb _ => cases hG
    | rv _ => cases hG
  rw [run_eq g21 rfl]
  cases F with
  | b z => simp [start0, b21, evE, evEs, evO, evC, evF, evSrc, evIn, evS, evSs, Option.bind_some, Option.map_some, Option.bind_none, Option.map_none, List.map_cons, List.map_nil, slot_c0, slot_cs, own_c0, own_cs, ownv_c0, ownv_cs, ownt_c0, tup_c0, tup_cs, view_int, view_str, view_bl, view_non, view_tup, view_lst, view_ty, view_fn, p_bin, p_neg, p_cmp, p_ix, p_len_tup, p_len_lst, p_abs, p_int, p_intb, p_isi, p_tuple_tup, p_tuple_lst, p_max, p_min, b_add_int, b_sub_int, c_lt, c_le, c_gt, c_ge, c_eq, c_ne, ix_tup, ix_lst, at0, at1, at2, at3, at4, at5, eq_int, eq_str, eq_bl, truD, set_c0, set_cs, setS_c, isi_tuple_tup, isi_tuple_lst, isi_tuple_str, isi_tuple_int, isi_tuple_non, isi_tuple_bl, isi_str_str, isi_str_tup, isi_str_int, isi_str_non, isi_str_lst, isi_str_bl, if_true_, if_false_, Kd.e, retOf]
  | v i => simp [start0, b21, evE, evEs, evO, evC, evF, evSrc, evIn, evS, evSs, Option.bind_some, Option.map_some, Option.bind_none, Option.map_none, List.map_cons, List.map_nil, slot_c0, slot_cs, own_c0, own_cs, ownv_c0, ownv_cs, ownt_c0, tup_c0, tup_cs, view_int, view_str, view_bl, view_non, view_tup, view_lst, view_ty, view_fn, p_bin, p_neg, p_cmp, p_ix, p_len_tup, p_len_lst, p_abs, p_int, p_intb, p_isi, p_tuple_tup, p_tuple_lst, p_max, p_min, b_add_int, b_sub_int, c_lt, c_le, c_gt, c_ge, c_eq, c_ne, ix_tup, ix_lst, at0, at1, at2, at3, at4, at5, eq_int, eq_str, eq_bl, truD, set_c0, set_cs, setS_c, isi_tuple_tup, isi_tuple_lst, isi_tuple_str, isi_tuple_int, isi_tuple_non, isi_tuple_bl, isi_str_str, isi_str_tup, isi_str_int, isi_str_non, isi_str_lst, isi_str_bl, if_true_, if_false_, Kd.e, some_, q1, retOf]
  | rb z =>
    have e := eq_K (o := 1) (K := .b z) (K' := .v u)
    have i := inner (.b z) rfl
    simp only [Kd.e, some_] at e i
    simp [start0, b21, evE, evEs, evO, evC, evF, evSrc, evIn, evS, evSs, Option.bind_some, Option.map_some, Option.bind_none, Option.map_none, List.map_cons, List.map_nil, slot_c0, slot_cs, own_c0, own_cs, ownv_c0, ownv_cs, ownt_c0, tup_c0, tup_cs, view_int, view_str, view_bl, view_non, view_tup, view_lst, view_ty, view_fn, p_bin, p_neg, p_cmp, p_ix, p_len_tup, p_len_lst, p_abs, p_int, p_intb, p_isi, p_tuple_tup, p_tuple_lst, p_max, p_min, b_add_int, b_sub_int, c_lt, c_le, c_gt, c_ge, c_eq, c_ne, ix_tup, ix_lst, at0, at1, at2, at3, at4, at5, eq_int, eq_str, eq_bl, truD, set_c0, set_cs, setS_c, isi_tuple_tup, isi_tuple_lst, isi_tuple_str, isi_tuple_int, isi_tuple_non, isi_tuple_bl, isi_str_str, isi_str_tup, isi_str_int, isi_str_non, isi_str_lst, isi_str_bl, if_true_, if_false_, Kd.e, some_, row_, e, i, retOf]
  | rv j =>
    have e := eq_K (o := 1) (K := .v j) (K' := .v u)
    have i := inner (.v j) rfl
    simp only [Kd.e, some_] at e i
    by_cases h : j = u
    · subst h
      simp [start0, b21, evE, evEs, evO, evC, evF, evSrc, evIn, evS, evSs, Option.bind_some, Option.map_some, Option.bind_none, Option.map_none, List.map_cons, List.map_nil, slot_c0, slot_cs, own_c0, own_cs, ownv_c0, ownv_cs, ownt_c0, tup_c0, tup_cs, view_int, view_str, view_bl, view_non, view_tup, view_lst, view_ty, view_fn, p_bin, p_neg, p_cmp, p_ix, p_len_tup, p_len_lst, p_abs, p_int, p_intb, p_isi, p_tuple_tup, p_tuple_lst, p_max, p_min, b_add_int, b_sub_int, c_lt, c_le, c_gt, c_ge, c_eq, c_ne, ix_tup, ix_lst, at0, at1, at2, at3, at4, at5, eq_int, eq_str, eq_bl, truD, set_c0, set_cs, setS_c, isi_tuple_tup, isi_tuple_lst, isi_tuple_str, isi_tuple_int, isi_tuple_non, isi_tuple_bl, isi_str_str, isi_str_tup, isi_str_int, isi_str_non, isi_str_lst, isi_str_bl, if_true_, if_false_, Kd.e, some_, row_, e, i, retOf]
    · simp [start0, b21, evE, evEs, evO, evC, evF, evSrc, evIn, evS, evSs, Option.bind_some, Option.map_some, Option.bind_none, Option.map_none, List.map_cons, List.map_nil, slot_c0, slot_cs, own_c0, own_cs, ownv_c0, ownv_cs, ownt_c0, tup_c0, tup_cs, view_int, view_str, view_bl, view_non, view_tup, view_lst, view_ty, view_fn, p_bin, p_neg, p_cmp, p_ix, p_len_tup, p_len_lst, p_abs, p_int, p_intb, p_isi, p_tuple_tup, p_tuple_lst, p_max, p_min, b_add_int, b_sub_int, c_lt, c_le, c_gt, c_ge, c_eq, c_ne, ix_tup, ix_lst, at0, at1, at2, at3, at4, at5, eq_int, eq_str, eq_bl, truD, set_c0, set_cs, setS_c, isi_tuple_tup, isi_tuple_lst, isi_tuple_str, isi_tuple_int, isi_tuple_non, isi_tuple_bl, isi_str_str, isi_str_tup, isi_str_int, isi_str_non, isi_str_lst, isi_str_bl, if_true_, if_false_, Kd.e, some_, row_, e, i, retOf, h]
theorem Net.ne (S : Net μ n a m' T M c) : a ≠ n ∧ m' ≠ n := by
  have x := S.n; have y := S.a; have z := S.m
  refine ⟨fun e => ?_, fun e => ?_⟩
  · rw [e] at y; rw [x] at y; cases y
  · rw [e] at z; rw [x] at z; cases z
theorem lunify_0 (S : Net μ n a m' T M c) (F : TM 1 T f) (h1 : Full f A F1) (h2 : Full f B F1) : run fs (k + 4) 20 [.ref n, A.e 1, B.e 1] μ = some (.bl true, μ) := by
  rw [run_eq g20 rfl]
  have e1 := lfound (k := k + 1) S.a F h1
  have e2 := lfound (k := k + 1) S.a F h2
  have e3 : eqD (F1.e 1) (F1.e 1) = some true := by rw [eq_K]; simp
  have e5 := view_lstc S.n
  have e6 : ∀ d, viewD μ (F1.e d) = F1.e d := fun d => by cases F1 <;> rfl
  generalize A.e 1 = x at e1 ⊢
  generalize B.e 1 = y at e2 ⊢
  simp [start0, b20, evE, evEs, evO, evC, evF, evSrc, evIn, evS, evSs, Option.bind_some, Option.map_some, Option.bind_none, Option.map_none, List.map_cons, List.map_nil, slot_c0, slot_cs, own_c0, own_cs, ownv_c0, ownv_cs, ownt_c0, tup_c0, tup_cs, view_int, view_str, view_bl, view_non, view_tup, view_lst, view_ty, view_fn, p_bin, p_neg, p_cmp, p_ix, p_len_tup, p_len_lst, p_abs, p_int, p_intb, p_isi, p_tuple_tup, p_tuple_lst, p_max, p_min, b_add_int, b_sub_int, c_lt, c_le, c_gt, c_ge, c_eq, c_ne, ix_tup, ix_lst, at0, at1, at2, at3, at4, at5, eq_int, eq_str, eq_bl, truD, set_c0, set_cs, setS_c, isi_tuple_tup, isi_tuple_lst, isi_tuple_str, isi_tuple_int, isi_tuple_non, isi_tuple_bl, isi_str_str, isi_str_tup, isi_str_int, isi_str_non, isi_str_lst, isi_str_bl, if_true_, if_false_, e1, e2, e3, e5, e6, retOf]
theorem vw {μ : Store} {K : Kd} {o : Int} : viewD μ (K.e o) = K.e o := by cases K <;> rfl
def luB : ISs := (.cons (.ifs (.andd (.prim .isi (.cons (.var 3) (.cons (.glob "tuple" (.ty "tuple")) .nil))) (.prim (.cmp .Eq) (.cons (.prim .ix (.cons (.var 3) (.cons (.lit (.int 0)) .nil))) (.cons (.lit (.str "some")) .nil))))
    (.cons (.ifs (.call "_law_stands_in" 21 (.cons (.var 3) (.cons (.var 4) .nil)))
    (.cons (.ret (.lit (.bl false)))
    .nil)
    .nil)
    (.cons (.set 5 (.dgetD (.prim .ix (.cons (.var 0) (.cons (.lit (.int 1)) .nil))) (.prim .ix (.cons (.var 3) (.cons (.lit (.int 1)) .nil))) (.lit (.str "any"))))
    (.cons (.setKy (.prim .ix (.cons (.var 0) (.cons (.lit (.int 0)) .nil))) (.prim .ix (.cons (.var 3) (.cons (.lit (.int 1)) .nil))) (.var 4))
    (.cons (.ret (.call "_law_limit" 22 (.cons (.var 0) (.cons (.var 4) (.cons (.var 5) .nil)))))
    .nil))))
    .nil)
    .nil)
theorem lu_skip {Γ : Env2} {s0 s1 s2 s3 s4 s5 : Slot} {K : Kd} {d : D} (h : K.isV = false) : ((asgT (.tp (.cons (.nm 3) (.cons (.nm 4) .nil))) (.tup [K.e 1, d]) [s0, s1, s2, s3, s4, s5]).bind fun ρ' => evSs Γ luB ρ' μ) = some (.nx, [s0, s1, s2, .val (K.e 1), .val d, s5], μ) := by
  have h2 : asgT (.tp (.cons (.nm 3) (.cons (.nm 4) .nil))) (.tup [K.e 1, d]) [s0, s1, s2, s3, s4, s5] = some [s0, s1, s2, .val (K.e 1), .val d, s5] := by simp [asgT, asgTs]
  rw [h2, Option.bind_some]
  cases K with
  | b z => simp [luB, evE, evEs, evO, evC, evF, evSrc, evIn, evS, evSs, Option.bind_some, Option.map_some, Option.bind_none, Option.map_none, List.map_cons, List.map_nil, slot_c0, slot_cs, own_c0, own_cs, ownv_c0, ownv_cs, ownt_c0, tup_c0, tup_cs, view_int, view_str, view_bl, view_non, view_tup, view_lst, view_ty, view_fn, p_bin, p_neg, p_cmp, p_ix, p_len_tup, p_len_lst, p_abs, p_int, p_intb, p_isi, p_tuple_tup, p_tuple_lst, p_max, p_min, b_add_int, b_sub_int, c_lt, c_le, c_gt, c_ge, c_eq, c_ne, ix_tup, ix_lst, at0, at1, at2, at3, at4, at5, eq_int, eq_str, eq_bl, truD, set_c0, set_cs, setS_c, isi_tuple_tup, isi_tuple_lst, isi_tuple_str, isi_tuple_int, isi_tuple_non, isi_tuple_bl, isi_str_str, isi_str_tup, isi_str_int, isi_str_non, isi_str_lst, isi_str_bl, if_true_, if_false_, Kd.e]
  | v i => cases h
  | rb z => simp [luB, evE, evEs, evO, evC, evF, evSrc, evIn, evS, evSs, Option.bind_some, Option.map_some, Option.bind_none, Option.map_none, List.map_cons, List.map_nil, slot_c0, slot_cs, own_c0, own_cs, ownv_c0, ownv_cs, ownt_c0, tup_c0, tup_cs, view_int, view_str, view_bl, view_non, view_tup, view_lst, view_ty, view_fn, p_bin, p_neg, p_cmp, p_ix, p_len_tup, p_len_lst, p_abs, p_int, p_intb, p_isi, p_tuple_tup, p_tuple_lst, p_max, p_min, b_add_int, b_sub_int, c_lt, c_le, c_gt, c_ge, c_eq, c_ne, ix_tup, ix_lst, at0, at1, at2, at3, at4, at5, eq_int, eq_str, eq_bl, truD, set_c0, set_cs, setS_c, isi_tuple_tup, isi_tuple_lst, isi_tuple_str, isi_tuple_int, isi_tuple_non, isi_tuple_bl, isi_str_str, isi_str_tup, isi_str_int, isi_str_non, isi_str_lst, isi_str_bl, if_true_, if_false_, Kd.e, row_, q2]
  | rv z => simp [luB, evE, evEs, evO, evC, evF, evSrc, evIn, evS, evSs, Option.bind_some, Option.map_some, Option.bind_none, Option.map_none, List.map_cons, List.map_nil, slot_c0, slot_cs, own_c0, own_cs, ownv_c0, ownv_cs, ownt_c0, tup_c0, tup_cs, view_int, view_str, view_bl, view_non, view_tup, view_lst, view_ty, view_fn, p_bin, p_neg, p_cmp, p_ix, p_len_tup, p_len_lst, p_abs, p_int, p_intb, p_isi, p_tuple_tup, p_tuple_lst, p_max, p_min, b_add_int, b_sub_int, c_lt, c_le, c_gt, c_ge, c_eq, c_ne, ix_tup, ix_lst, at0, at1, at2, at3, at4, at5, eq_int, eq_str, eq_bl, truD, set_c0, set_cs, setS_c, isi_tuple_tup, isi_tuple_lst, isi_tuple_str, isi_tuple_int, isi_tuple_non, isi_tuple_bl, isi_str_str, isi_str_tup, isi_str_int, isi_str_non, isi_str_lst, isi_str_bl, if_true_, if_false_, Kd.e, row_, q2]
theorem lu_loop {Γ : Env2} {s0 s3 s4 s5 : Slot} {K K' : Kd} (h : K.isV = false) (h' : K'.isV = false) : evS Γ (.fors (.tp (.cons (.nm 3) (.cons (.nm 4) .nil))) (.it (.tup (.cons (.tup (.cons (.var 1) (.cons (.var 2) .nil))) (.cons (.tup (.cons (.var 2) (.cons (.var 1) .nil))) .nil)))) luB)
    [s0, .val (K.e 1), .val (K'.e 1), s3, s4, s5] μ = some (.nx, [s0, .val (K.e 1), .val (K'.e 1), .val (K'.e 1), .val (K.e 1), s5], μ) := by
  have src : evSrc Γ (.it (.tup (.cons (.tup (.cons (.var 1) (.cons (.var 2) .nil))) (.cons (.tup (.cons (.var 2) (.cons (.var 1) .nil))) .nil)))) [s0, .val (K.e 1), .val (K'.e 1), s3, s4, s5] μ = some (.items [.tup [K.e 1, K'.e 1], .tup [K'.e 1, K.e 1]], μ) := by
    simp [evE, evEs, evO, evC, evF, evSrc, evIn, evS, evSs, Option.bind_some, Option.map_some, Option.bind_none, Option.map_none, List.map_cons, List.map_nil, slot_c0, slot_cs, own_c0, own_cs, ownv_c0, ownv_cs, ownt_c0, tup_c0, tup_cs, view_int, view_str, view_bl, view_non, view_tup, view_lst, view_ty, view_fn, p_bin, p_neg, p_cmp, p_ix, p_len_tup, p_len_lst, p_abs, p_int, p_intb, p_isi, p_tuple_tup, p_tuple_lst, p_max, p_min, b_add_int, b_sub_int, c_lt, c_le, c_gt, c_ge, c_eq, c_ne, ix_tup, ix_lst, at0, at1, at2, at3, at4, at5, eq_int, eq_str, eq_bl, truD, set_c0, set_cs, setS_c, isi_tuple_tup, isi_tuple_lst, isi_tuple_str, isi_tuple_int, isi_tuple_non, isi_tuple_bl, isi_str_str, isi_str_tup, isi_str_int, isi_str_non, isi_str_lst, isi_str_bl, if_true_, if_false_, itemsD, le_size]
  simp only [evS, src, Option.bind_some, loopF, lu_skip h, lu_skip h']
/-- two that are not left open, unlike: down to the last two rows -/
theorem lu_pre (S : Net μ n a m' T M c) (F : TM 1 T f) (h1 : Full f A F1) (h2 : Full f B F2) (n1 : F1.isV = false) (n2 : F2.isV = false) (ne : F1 ≠ F2) :
    evSs ⟨run fs (k + 3), (runP fs (k + 3)).2⟩ b20 [.val (.ref n), .val (A.e 1), .val (B.e 1), .emp, .emp, .emp] μ = evSs ⟨run fs (k + 3), (runP fs (k + 3)).2⟩ (.cons (.ifs (.andd (.prim .isi (.cons (.var 1) (.cons (.glob "tuple" (.ty "tuple")) .nil))) (.prim .isi (.cons (.var 2) (.cons (.glob "tuple" (.ty "tuple")) .nil))))
      (.cons (.ret (.call "_law_unify" 20 (.cons (.var 0) (.cons (.prim .ix (.cons (.var 1) (.cons (.lit (.int 1)) .nil))) (.cons (.prim .ix (.cons (.var 2) (.cons (.lit (.int 1)) .nil))) .nil))))) .nil) .nil) (.cons (.ret (.lit (.bl false))) .nil))
      [.val (.ref n), .val (F1.e 1), .val (F2.e 1), .val (F2.e 1), .val (F1.e 1), .emp] μ := by
  have e1 := lfound (k := k + 1) S.a F h1
  have e2 := lfound (k := k + 1) S.a F h2
  have e3 : eqD (F1.e 1) (F2.e 1) = some false := by rw [eq_K]; simp [ne]
  have e5 := view_lstc S.n
  have e6 := vw (μ := μ) (K := F1) (o := 1)
  have e7 := vw (μ := μ) (K := F2) (o := 1)
  have p1 : evS ⟨run fs (k + 3), (runP fs (k + 3)).2⟩ (.par 1 2 (.v (.call "_law_found" 19 (.cons (.prim .ix (.cons (.var 0) (.cons (.lit (.int 0)) .nil))) (.cons (.var 1) .nil)))) (.v (.call "_law_found" 19 (.cons (.prim .ix (.cons (.var 0) (.cons (.lit (.int 0)) .nil))) (.cons (.var 2) .nil)))))
      [.val (.ref n), .val (A.e 1), .val (B.e 1), .emp, .emp, .emp] μ = some (.nx, [.val (.ref n), .val (F1.e 1), .val (F2.e 1), .emp, .emp, .emp], μ) := by
    simp [evE, evEs, evO, evC, evF, evSrc, evIn, evS, evSs, Option.bind_some, Option.map_some, Option.bind_none, Option.map_none, List.map_cons, List.map_nil, slot_c0, slot_cs, own_c0, own_cs, ownv_c0, ownv_cs, ownt_c0, tup_c0, tup_cs, view_int, view_str, view_bl, view_non, view_tup, view_lst, view_ty, view_fn, p_bin, p_neg, p_cmp, p_ix, p_len_tup, p_len_lst, p_abs, p_int, p_intb, p_isi, p_tuple_tup, p_tuple_lst, p_max, p_min, b_add_int, b_sub_int, c_lt, c_le, c_gt, c_ge, c_eq, c_ne, ix_tup, ix_lst, at0, at1, at2, at3, at4, at5, eq_int, eq_str, eq_bl, truD, set_c0, set_cs, setS_c, isi_tuple_tup, isi_tuple_lst, isi_tuple_str, isi_tuple_int, isi_tuple_non, isi_tuple_bl, isi_str_str, isi_str_tup, isi_str_int, isi_str_non, isi_str_lst, isi_str_bl, if_true_, if_false_, e1, e2, e5]
  have p2 : evS ⟨run fs (k + 3), (runP fs (k + 3)).2⟩ (.ifs (.prim (.cmp .Eq) (.cons (.var 1) (.cons (.var 2) .nil))) (.cons (.ret (.lit (.bl true))) .nil) .nil) [.val (.ref n), .val (F1.e 1), .val (F2.e 1), .emp, .emp, .emp] μ = some (.nx, [.val (.ref n), .val (F1.e 1), .val (F2.e 1), .emp, .emp, .emp], μ) := by
    simp [evE, evEs, evO, evC, evF, evSrc, evIn, evS, evSs, Option.bind_some, Option.map_some, Option.bind_none, Option.map_none, List.map_cons, List.map_nil, slot_c0, slot_cs, own_c0, own_cs, ownv_c0, ownv_cs, ownt_c0, tup_c0, tup_cs, view_int, view_str, view_bl, view_non, view_tup, view_lst, view_ty, view_fn, p_bin, p_neg, p_cmp, p_ix, p_len_tup, p_len_lst, p_abs, p_int, p_intb, p_isi, p_tuple_tup, p_tuple_lst, p_max, p_min, b_add_int, b_sub_int, c_lt, c_le, c_gt, c_ge, c_eq, c_ne, ix_tup, ix_lst, at0, at1, at2, at3, at4, at5, eq_int, eq_str, eq_bl, truD, set_c0, set_cs, setS_c, isi_tuple_tup, isi_tuple_lst, isi_tuple_str, isi_tuple_int, isi_tuple_non, isi_tuple_bl, isi_str_str, isi_str_tup, isi_str_int, isi_str_non, isi_str_lst, isi_str_bl, if_true_, if_false_, e3, e6, e7]
  unfold b20
  rw [evSs, p1, Option.bind_some]
  show evSs _ _ _ _ = _
  rw [evSs, p2, Option.bind_some]
  show evSs _ _ _ _ = _
  rw [evSs]
  show ((evS _ (.fors _ _ luB) _ _).bind _) = _
  rw [lu_loop n1 n2, Option.bind_some]
theorem lu_hit {s0 s1 s2 s3 s4 s5 : Slot} {u : Nat} : ((asgT (.tp (.cons (.nm 3) (.cons (.nm 4) .nil))) (.tup [(Kd.v u).e 1, (Kd.rv u).e 1]) [s0, s1, s2, s3, s4, s5]).bind fun ρ' => evSs ⟨run fs (k + 3), (runP fs (k + 3)).2⟩ luB ρ' μ) =
    some (.ret (.bl false), [s0, s1, s2, .val ((Kd.v u).e 1), .val ((Kd.rv u).e 1), s5], μ) := by
  have h2 : asgT (.tp (.cons (.nm 3) (.cons (.nm 4) .nil))) (.tup [(Kd.v u).e 1, (Kd.rv u).e 1]) [s0, s1, s2, s3, s4, s5] = some [s0, s1, s2, .val ((Kd.v u).e 1), .val ((Kd.rv u).e 1), s5] := by simp [asgT, asgTs]
  rw [h2, Option.bind_some]
  have e8 := stands (k := k + 1) (μ := μ) (u := u) (F := .rv u)
  simp only [decide_true] at e8
  generalize (Kd.rv u).e 1 = d2 at *
  simp only [Kd.e, some_] at e8
  simp [luB, evE, evEs, evO, evC, evF, evSrc, evIn, evS, evSs, Option.bind_some, Option.map_some, Option.bind_none, Option.map_none, List.map_cons, List.map_nil, slot_c0, slot_cs, own_c0, own_cs, ownv_c0, ownv_cs, ownt_c0, tup_c0, tup_cs, view_int, view_str, view_bl, view_non, view_tup, view_lst, view_ty, view_fn, p_bin, p_neg, p_cmp, p_ix, p_len_tup, p_len_lst, p_abs, p_int, p_intb, p_isi, p_tuple_tup, p_tuple_lst, p_max, p_min, b_add_int, b_sub_int, c_lt, c_le, c_gt, c_ge, c_eq, c_ne, ix_tup, ix_lst, at0, at1, at2, at3, at4, at5, eq_int, eq_str, eq_bl, truD, set_c0, set_cs, setS_c, isi_tuple_tup, isi_tuple_lst, isi_tuple_str, isi_tuple_int, isi_tuple_non, isi_tuple_bl, isi_str_str, isi_str_tup, isi_str_int, isi_str_non, isi_str_lst, isi_str_bl, if_true_, if_false_, Kd.e, some_, e8]
theorem lu_hit2 (S : Net μ n a m' T M c) (hM : LM M lim) (hT : T.length < 1000) {s1 s2 s3 s4 s5 : Slot} {u : Nat} {wu : Wd} (hu : lim u = some wu) (st : F1 ≠ .rv u)
    (e : run fs (k + 3) 22 [.ref n, F1.e 1, .str wu.s] (μ.set a (.dic (setK T (.inl ((u : Int) + 1)) (F1.e 1)))) = some r) :
    ∃ ρ, ((asgT (.tp (.cons (.nm 3) (.cons (.nm 4) .nil))) (.tup [(Kd.v u).e 1, F1.e 1]) [.val (.ref n), s1, s2, s3, s4, s5]).bind fun ρ' => evSs ⟨run fs (k + 3), (runP fs (k + 3)).2⟩ luB ρ' μ) = some (.ret r.1, ρ, r.2) := by
  have h2 : asgT (.tp (.cons (.nm 3) (.cons (.nm 4) .nil))) (.tup [(Kd.v u).e 1, F1.e 1]) [.val (.ref n), s1, s2, s3, s4, s5] = some [.val (.ref n), s1, s2, .val ((Kd.v u).e 1), .val (F1.e 1), s5] := by simp [asgT, asgTs]
  refine ⟨[.val (.ref n), s1, s2, .val ((Kd.v u).e 1), .val (F1.e 1), .val (.str wu.s)], ?_⟩
  rw [h2, Option.bind_some]
  have e5 := view_lstc S.n
  have e7 : getK M (.inl ((u : Int) + 1)) = some (.str wu.s) := by rw [hM u, hu]; rfl
  have e8 := stands (k := k + 1) (μ := μ) (u := u) (F := F1)
  simp only [st, decide_false] at e8
  generalize F1.e 1 = d2 at *
  obtain ⟨z1, z2⟩ := r
  simp only [Kd.e, some_] at e8
  simp [luB, evE, evEs, evO, evC, evF, evSrc, evIn, evS, evSs, Option.bind_some, Option.map_some, Option.bind_none, Option.map_none, List.map_cons, List.map_nil, slot_c0, slot_cs, own_c0, own_cs, ownv_c0, ownv_cs, ownt_c0, tup_c0, tup_cs, view_int, view_str, view_bl, view_non, view_tup, view_lst, view_ty, view_fn, p_bin, p_neg, p_cmp, p_ix, p_len_tup, p_len_lst, p_abs, p_int, p_intb, p_isi, p_tuple_tup, p_tuple_lst, p_max, p_min, b_add_int, b_sub_int, c_lt, c_le, c_gt, c_ge, c_eq, c_ne, ix_tup, ix_lst, at0, at1, at2, at3, at4, at5, eq_int, eq_str, eq_bl, truD, set_c0, set_cs, setS_c, isi_tuple_tup, isi_tuple_lst, isi_tuple_str, isi_tuple_int, isi_tuple_non, isi_tuple_bl, isi_str_str, isi_str_tup, isi_str_int, isi_str_non, isi_str_lst, isi_str_bl, if_true_, if_false_, Kd.e, some_, e5, e7, e8, S.m, S.a, keyD, lt_size (Nat.le_of_lt hT), e]
theorem lu_two (S : Net μ n a m' T M c) (F : TM 1 T f) {u : Nat} (h1 : Full f A F1) (h2 : Full f B (.v u)) (n1 : F1.isV = false)
    (hit : ∃ ρ, ((asgT (.tp (.cons (.nm 3) (.cons (.nm 4) .nil))) (.tup [(Kd.v u).e 1, F1.e 1]) [.val (.ref n), .val (F1.e 1), .val ((Kd.v u).e 1), .val (F1.e 1), .val ((Kd.v u).e 1), .emp]).bind fun ρ' => evSs ⟨run fs (k + 3), (runP fs (k + 3)).2⟩ luB ρ' μ) = some (.ret r.1, ρ, r.2)) :
    run fs (k + 4) 20 [.ref n, A.e 1, B.e 1] μ = some r := by
  rw [run_eq g20 rfl]
  obtain ⟨ρ, hit⟩ := hit
  have e1 := lfound (k := k + 1) S.a F h1
  have e2 := lfound (k := k + 1) S.a F h2
  have e3 : eqD (F1.e 1) ((Kd.v u).e 1) = some false := by
    rw [eq_K]
    have : F1 ≠ .v u := fun z => by rw [z] at n1; cases n1
    simp [this]
  have e5 := view_lstc S.n
  have e6 := vw (μ := μ) (K := F1) (o := 1)
  have e7 := vw (μ := μ) (K := .v u) (o := 1)
  have p1 : evS ⟨run fs (k + 3), (runP fs (k + 3)).2⟩ (.par 1 2 (.v (.call "_law_found" 19 (.cons (.prim .ix (.cons (.var 0) (.cons (.lit (.int 0)) .nil))) (.cons (.var 1) .nil)))) (.v (.call "_law_found" 19 (.cons (.prim .ix (.cons (.var 0) (.cons (.lit (.int 0)) .nil))) (.cons (.var 2) .nil)))))
      [.val (.ref n), .val (A.e 1), .val (B.e 1), .emp, .emp, .emp] μ = some (.nx, [.val (.ref n), .val (F1.e 1), .val ((Kd.v u).e 1), .emp, .emp, .emp], μ) := by
    simp [evE, evEs, evO, evC, evF, evSrc, evIn, evS, evSs, Option.bind_some, Option.map_some, Option.bind_none, Option.map_none, List.map_cons, List.map_nil, slot_c0, slot_cs, own_c0, own_cs, ownv_c0, ownv_cs, ownt_c0, tup_c0, tup_cs, view_int, view_str, view_bl, view_non, view_tup, view_lst, view_ty, view_fn, p_bin, p_neg, p_cmp, p_ix, p_len_tup, p_len_lst, p_abs, p_int, p_intb, p_isi, p_tuple_tup, p_tuple_lst, p_max, p_min, b_add_int, b_sub_int, c_lt, c_le, c_gt, c_ge, c_eq, c_ne, ix_tup, ix_lst, at0, at1, at2, at3, at4, at5, eq_int, eq_str, eq_bl, truD, set_c0, set_cs, setS_c, isi_tuple_tup, isi_tuple_lst, isi_tuple_str, isi_tuple_int, isi_tuple_non, isi_tuple_bl, isi_str_str, isi_str_tup, isi_str_int, isi_str_non, isi_str_lst, isi_str_bl, if_true_, if_false_, e1, e2, e5]
  have p2 : evS ⟨run fs (k + 3), (runP fs (k + 3)).2⟩ (.ifs (.prim (.cmp .Eq) (.cons (.var 1) (.cons (.var 2) .nil))) (.cons (.ret (.lit (.bl true))) .nil) .nil) [.val (.ref n), .val (F1.e 1), .val ((Kd.v u).e 1), .emp, .emp, .emp] μ = some (.nx, [.val (.ref n), .val (F1.e 1), .val ((Kd.v u).e 1), .emp, .emp, .emp], μ) := by
    simp [evE, evEs, evO, evC, evF, evSrc, evIn, evS, evSs, Option.bind_some, Option.map_some, Option.bind_none, Option.map_none, List.map_cons, List.map_nil, slot_c0, slot_cs, own_c0, own_cs, ownv_c0, ownv_cs, ownt_c0, tup_c0, tup_cs, view_int, view_str, view_bl, view_non, view_tup, view_lst, view_ty, view_fn, p_bin, p_neg, p_cmp, p_ix, p_len_tup, p_len_lst, p_abs, p_int, p_intb, p_isi, p_tuple_tup, p_tuple_lst, p_max, p_min, b_add_int, b_sub_int, c_lt, c_le, c_gt, c_ge, c_eq, c_ne, ix_tup, ix_lst, at0, at1, at2, at3, at4, at5, eq_int, eq_str, eq_bl, truD, set_c0, set_cs, setS_c, isi_tuple_tup, isi_tuple_lst, isi_tuple_str, isi_tuple_int, isi_tuple_non, isi_tuple_bl, isi_str_str, isi_str_tup, isi_str_int, isi_str_non, isi_str_lst, isi_str_bl, if_true_, if_false_, e3, e6, e7]
  have src : evSrc ⟨run fs (k + 3), (runP fs (k + 3)).2⟩ (.it (.tup (.cons (.tup (.cons (.var 1) (.cons (.var 2) .nil))) (.cons (.tup (.cons (.var 2) (.cons (.var 1) .nil))) .nil)))) [.val (.ref n), .val (F1.e 1), .val ((Kd.v u).e 1), .emp, .emp, .emp] μ = some (.items [.tup [F1.e 1, (Kd.v u).e 1], .tup [(Kd.v u).e 1, F1.e 1]], μ) := by
    simp [evE, evEs, evO, evC, evF, evSrc, evIn, evS, evSs, Option.bind_some, Option.map_some, Option.bind_none, Option.map_none, List.map_cons, List.map_nil, slot_c0, slot_cs, own_c0, own_cs, ownv_c0, ownv_cs, ownt_c0, tup_c0, tup_cs, view_int, view_str, view_bl, view_non, view_tup, view_lst, view_ty, view_fn, p_bin, p_neg, p_cmp, p_ix, p_len_tup, p_len_lst, p_abs, p_int, p_intb, p_isi, p_tuple_tup, p_tuple_lst, p_max, p_min, b_add_int, b_sub_int, c_lt, c_le, c_gt, c_ge, c_eq, c_ne, ix_tup, ix_lst, at0, at1, at2, at3, at4, at5, eq_int, eq_str, eq_bl, truD, set_c0, set_cs, setS_c, isi_tuple_tup, isi_tuple_lst, isi_tuple_str, isi_tuple_int, isi_tuple_non, isi_tuple_bl, isi_str_str, isi_str_tup, isi_str_int, isi_str_non, isi_str_lst, isi_str_bl, if_true_, if_false_, itemsD, le_size]
  have p3 : evS ⟨run fs (k + 3), (runP fs (k + 3)).2⟩ (.fors (.tp (.cons (.nm 3) (.cons (.nm 4) .nil))) (.it (.tup (.cons (.tup (.cons (.var 1) (.cons (.var 2) .nil))) (.cons (.tup (.cons (.var 2) (.cons (.var 1) .nil))) .nil)))) luB)
      [.val (.ref n), .val (F1.e 1), .val ((Kd.v u).e 1), .emp, .emp, .emp] μ = some (.ret r.1, ρ, r.2) := by
    simp only [evS, src, Option.bind_some, loopF, lu_skip n1, hit]
  have whole : evSs ⟨run fs (k + 3), (runP fs (k + 3)).2⟩ b20 [.val (.ref n), .val (A.e 1), .val (B.e 1), .emp, .emp, .emp] μ = some (.ret r.1, ρ, r.2) := by
    unfold b20
    rw [evSs, p1, Option.bind_some]
    show evSs _ _ _ _ = _
    rw [evSs, p2, Option.bind_some]
    show evSs _ _ _ _ = _
    rw [evSs]
    show ((evS _ (.fors _ _ luB) _ _).bind _) = _
    rw [p3, Option.bind_some]
  show retOf (evSs _ b20 [.val (.ref n), .val (A.e 1), .val (B.e 1), .emp, .emp, .emp] μ) = _
  rw [whole]; rfl
theorem lunify_2 (S : Net μ n a m' T M c) (F : TM 1 T f) (hM : LM M lim) (hT : T.length < 1000) {u : Nat} {wu : Wd} (h1 : Full f A F1) (h2 : Full f B (.v u)) (nv : F1.isV = false) (hu : lim u = some wu) (st : F1 ≠ .rv u)
    (e : run fs (k + 3) 22 [.ref n, F1.e 1, .str wu.s] (μ.set a (.dic (setK T (.inl ((u : Int) + 1)) (F1.e 1)))) = some r) : run fs (k + 4) 20 [.ref n, A.e 1, B.e 1] μ = some r :=
  lu_two S F h1 h2 nv (lu_hit2 S hM hT hu st e)
theorem lunify_2s (S : Net μ n a m' T M c) (F : TM 1 T f) {u : Nat} (h1 : Full f A (.rv u)) (h2 : Full f B (.v u)) : run fs (k + 4) 20 [.ref n, A.e 1, B.e 1] μ = some (.bl false, μ) :=
  lu_two (r := (.bl false, μ)) S F h1 h2 rfl ⟨_, lu_hit⟩
theorem lu_one (S : Net μ n a m' T M c) (F : TM 1 T f) {u : Nat} (h1 : Full f A (.v u)) (h2 : Full f B F2) (ne : F2 ≠ .v u)
    (hit : ∃ ρ, ((asgT (.tp (.cons (.nm 3) (.cons (.nm 4) .nil))) (.tup [(Kd.v u).e 1, F2.e 1]) [.val (.ref n), .val ((Kd.v u).e 1), .val (F2.e 1), .emp, .emp, .emp]).bind fun ρ' => evSs ⟨run fs (k + 3), (runP fs (k + 3)).2⟩ luB ρ' μ) = some (.ret r.1, ρ, r.2)) :
    run fs (k + 4) 20 [.ref n, A.e 1, B.e 1] μ = some r := by
  rw [run_eq g20 rfl]
  obtain ⟨ρ, hit⟩ := hit
  have e1 := lfound (k := k + 1) S.a F h1
  have e2 := lfound (k := k + 1) S.a F h2
  have e3 : eqD ((Kd.v u).e 1) (F2.e 1) = some false := by
    rw [eq_K]
    simp [Ne.symm ne]
  have e5 := view_lstc S.n
  have e6 := vw (μ := μ) (K := F2) (o := 1)
  have e7 := vw (μ := μ) (K := .v u) (o := 1)
  have p1 : evS ⟨run fs (k + 3), (runP fs (k + 3)).2⟩ (.par 1 2 (.v (.call "_law_found" 19 (.cons (.prim .ix (.cons (.var 0) (.cons (.lit (.int 0)) .nil))) (.cons (.var 1) .nil)))) (.v (.call "_law_found" 19 (.cons (.prim .ix (.cons (.var 0) (.cons (.lit (.int 0)) .nil))) (.cons (.var 2) .nil)))))
      [.val (.ref n), .val (A.e 1), .val (B.e 1), .emp, .emp, .emp] μ = some (.nx, [.val (.ref n), .val ((Kd.v u).e 1), .val (F2.e 1), .emp, .emp, .emp], μ) := by
    simp [evE, evEs, evO, evC, evF, evSrc, evIn, evS, evSs, Option.bind_some, Option.map_some, Option.bind_none, Option.map_none, List.map_cons, List.map_nil, slot_c0, slot_cs, own_c0, own_cs, ownv_c0, ownv_cs, ownt_c0, tup_c0, tup_cs, view_int, view_str, view_bl, view_non, view_tup, view_lst, view_ty, view_fn, p_bin, p_neg, p_cmp, p_ix, p_len_tup, p_len_lst, p_abs, p_int, p_intb, p_isi, p_tuple_tup, p_tuple_lst, p_max, p_min, b_add_int, b_sub_int, c_lt, c_le, c_gt, c_ge, c_eq, c_ne, ix_tup, ix_lst, at0, at1, at2, at3, at4, at5, eq_int, eq_str, eq_bl, truD, set_c0, set_cs, setS_c, isi_tuple_tup, isi_tuple_lst, isi_tuple_str, isi_tuple_int, isi_tuple_non, isi_tuple_bl, isi_str_str, isi_str_tup, isi_str_int, isi_str_non, isi_str_lst, isi_str_bl, if_true_, if_false_, e1, e2, e5]
  have p2 : evS ⟨run fs (k + 3), (runP fs (k + 3)).2⟩ (.ifs (.prim (.cmp .Eq) (.cons (.var 1) (.cons (.var 2) .nil))) (.cons (.ret (.lit (.bl true))) .nil) .nil) [.val (.ref n), .val ((Kd.v u).e 1), .val (F2.e 1), .emp, .emp, .emp] μ = some (.nx, [.val (.ref n), .val ((Kd.v u).e 1), .val (F2.e 1), .emp, .emp, .emp], μ) := by
    simp [evE, evEs, evO, evC, evF, evSrc, evIn, evS, evSs, Option.bind_some, Option.map_some, Option.bind_none, Option.map_none, List.map_cons, List.map_nil, slot_c0, slot_cs, own_c0, own_cs, ownv_c0, ownv_cs, ownt_c0, tup_c0, tup_cs, view_int, view_str, view_bl, view_non, view_tup, view_lst, view_ty, view_fn, p_bin, p_neg, p_cmp, p_ix, p_len_tup, p_len_lst, p_abs, p_int, p_intb, p_isi, p_tuple_tup, p_tuple_lst, p_max, p_min, b_add_int, b_sub_int, c_lt, c_le, c_gt, c_ge, c_eq, c_ne, ix_tup, ix_lst, at0, at1, at2, at3, at4, at5, eq_int, eq_str, eq_bl, truD, set_c0, set_cs, setS_c, isi_tuple_tup, isi_tuple_lst, isi_tuple_str, isi_tuple_int, isi_tuple_non, isi_tuple_bl, isi_str_str, isi_str_tup, isi_str_int, isi_str_non, isi_str_lst, isi_str_bl, if_true_, if_false_, e3, e6, e7]
  have src : evSrc ⟨run fs (k + 3), (runP fs (k + 3)).2⟩ (.it (.tup (.cons (.tup (.cons (.var 1) (.cons (.var 2) .nil))) (.cons (.tup (.cons (.var 2) (.cons (.var 1) .nil))) .nil)))) [.val (.ref n), .val ((Kd.v u).e 1), .val (F2.e 1), .emp, .emp, .emp] μ = some (.items [.tup [(Kd.v u).e 1, F2.e 1], .tup [F2.e 1, (Kd.v u).e 1]], μ) := by
    simp [evE, evEs, evO, evC, evF, evSrc, evIn, evS, evSs, Option.bind_some, Option.map_some, Option.bind_none, Option.map_none, List.map_cons, List.map_nil, slot_c0, slot_cs, own_c0, own_cs, ownv_c0, ownv_cs, ownt_c0, tup_c0, tup_cs, view_int, view_str, view_bl, view_non, view_tup, view_lst, view_ty, view_fn, p_bin, p_neg, p_cmp, p_ix, p_len_tup, p_len_lst, p_abs, p_int, p_intb, p_isi, p_tuple_tup, p_tuple_lst, p_max, p_min, b_add_int, b_sub_int, c_lt, c_le, c_gt, c_ge, c_eq, c_ne, ix_tup, ix_lst, at0, at1, at2, at3, at4, at5, eq_int, eq_str, eq_bl, truD, set_c0, set_cs, setS_c, isi_tuple_tup, isi_tuple_lst, isi_tuple_str, isi_tuple_int, isi_tuple_non, isi_tuple_bl, isi_str_str, isi_str_tup, isi_str_int, isi_str_non, isi_str_lst, isi_str_bl, if_true_, if_false_, itemsD, le_size]
  have p3 : evS ⟨run fs (k + 3), (runP fs (k + 3)).2⟩ (.fors (.tp (.cons (.nm 3) (.cons (.nm 4) .nil))) (.it (.tup (.cons (.tup (.cons (.var 1) (.cons (.var 2) .nil))) (.cons (.tup (.cons (.var 2) (.cons (.var 1) .nil))) .nil)))) luB)
      [.val (.ref n), .val ((Kd.v u).e 1), .val (F2.e 1), .emp, .emp, .emp] μ = some (.ret r.1, ρ, r.2) := by
    simp only [evS, src, Option.bind_some, loopF, hit]
  have whole : evSs ⟨run fs (k + 3), (runP fs (k + 3)).2⟩ b20 [.val (.ref n), .val (A.e 1), .val (B.e 1), .emp, .emp, .emp] μ = some (.ret r.1, ρ, r.2) := by
    unfold b20
    rw [evSs, p1, Option.bind_some]
    show evSs _ _ _ _ = _
    rw [evSs, p2, Option.bind_some]
    show evSs _ _ _ _ = _
    rw [evSs]
    show ((evS _ (.fors _ _ luB) _ _).bind _) = _
    rw [p3, Option.bind_some]
  show retOf (evSs _ b20 [.val (.ref n), .val (A.e 1), .val (B.e 1), .emp, .emp, .emp] μ) = _
  rw [whole]; rfl
theorem lunify_1 (S : Net μ n a m' T M c) (F : TM 1 T f) (hM : LM M lim) (hT : T.length < 1000) {u : Nat} {wu : Wd} (h1 : Full f A (.v u)) (h2 : Full f B F2) (ne : F2 ≠ .v u) (hu : lim u = some wu) (st : F2 ≠ .rv u)
    (e : run fs (k + 3) 22 [.ref n, F2.e 1, .str wu.s] (μ.set a (.dic (setK T (.inl ((u : Int) + 1)) (F2.e 1)))) = some r) : run fs (k + 4) 20 [.ref n, A.e 1, B.e 1] μ = some r :=
  lu_one S F h1 h2 ne (lu_hit2 S hM hT hu st e)
theorem lunify_1s (S : Net μ n a m' T M c) (F : TM 1 T f) {u : Nat} (h1 : Full f A (.v u)) (h2 : Full f B (.rv u)) : run fs (k + 4) 20 [.ref n, A.e 1, B.e 1] μ = some (.bl false, μ) :=
  lu_one (r := (.bl false, μ)) S F h1 h2 (by simp) ⟨_, lu_hit⟩
theorem lunify_3 (S : Net μ n a m' T M c) (F : TM 1 T f) {x' y' : D} (h1 : Full f A F1) (h2 : Full f B F2) (n1 : F1.isV = false) (n2 : F2.isV = false) (r1 : F1.e 1 = row_ x') (r2 : F2.e 1 = row_ y') (ne : F1 ≠ F2)
    (e : run fs (k + 3) 20 [.ref n, x', y'] μ = some r) : run fs (k + 4) 20 [.ref n, A.e 1, B.e 1] μ = some r := by
  rw [run_eq g20 rfl]
  show retOf (evSs _ b20 [.val (.ref n), .val (A.e 1), .val (B.e 1), .emp, .emp, .emp] μ) = _
  rw [lu_pre S F h1 h2 n1 n2 ne, r1, r2]
  obtain ⟨z1, z2⟩ := r
  unfold row_
  simp [evE, evEs, evO, evC, evF, evSrc, evIn, evS, evSs, Option.bind_some, Option.map_some, Option.bind_none, Option.map_none, List.map_cons, List.map_nil, slot_c0, slot_cs, own_c0, own_cs, ownv_c0, ownv_cs, ownt_c0, tup_c0, tup_cs, view_int, view_str, view_bl, view_non, view_tup, view_lst, view_ty, view_fn, p_bin, p_neg, p_cmp, p_ix, p_len_tup, p_len_lst, p_abs, p_int, p_intb, p_isi, p_tuple_tup, p_tuple_lst, p_max, p_min, b_add_int, b_sub_int, c_lt, c_le, c_gt, c_ge, c_eq, c_ne, ix_tup, ix_lst, at0, at1, at2, at3, at4, at5, eq_int, eq_str, eq_bl, truD, set_c0, set_cs, setS_c, isi_tuple_tup, isi_tuple_lst, isi_tuple_str, isi_tuple_int, isi_tuple_non, isi_tuple_bl, isi_str_str, isi_str_tup, isi_str_int, isi_str_non, isi_str_lst, isi_str_bl, if_true_, if_false_, e, retOf]
theorem lunify_4 (S : Net μ n a m' T M c) (F : TM 1 T f) (h1 : Full f A F1) (h2 : Full f B F2) (n1 : F1.isV = false) (n2 : F2.isV = false) (nr : F1.isR = false ∨ F2.isR = false) (ne : F1 ≠ F2) :
    run fs (k + 4) 20 [.ref n, A.e 1, B.e 1] μ = some (.bl false, μ) := by
  rw [run_eq g20 rfl]
  show retOf (evSs _ b20 [.val (.ref n), .val (A.e 1), .val (B.e 1), .emp, .emp, .emp] μ) = _
  rw [lu_pre S F h1 h2 n1 n2 ne]
  cases F1 <;> cases F2 <;> simp only [Kd.isV, Kd.isR, Bool.true_eq_false, or_self, or_false, false_or, reduceCtorEq] at n1 n2 nr
  all_goals simp [evE, evEs, evO, evC, evF, evSrc, evIn, evS, evSs, Option.bind_some, Option.map_some, Option.bind_none, Option.map_none, List.map_cons, List.map_nil, slot_c0, slot_cs, own_c0, own_cs, ownv_c0, ownv_cs, ownt_c0, tup_c0, tup_cs, view_int, view_str, view_bl, view_non, view_tup, view_lst, view_ty, view_fn, p_bin, p_neg, p_cmp, p_ix, p_len_tup, p_len_lst, p_abs, p_int, p_intb, p_isi, p_tuple_tup, p_tuple_lst, p_max, p_min, b_add_int, b_sub_int, c_lt, c_le, c_gt, c_ge, c_eq, c_ne, ix_tup, ix_lst, at0, at1, at2, at3, at4, at5, eq_int, eq_str, eq_bl, truD, set_c0, set_cs, setS_c, isi_tuple_tup, isi_tuple_lst, isi_tuple_str, isi_tuple_int, isi_tuple_non, isi_tuple_bl, isi_str_str, isi_str_tup, isi_str_int, isi_str_non, isi_str_lst, isi_str_bl, if_true_, if_false_, Kd.e, row_, some_, retOf]
end
end FH.K06
end
section
namespace FH.K06
open PySem PySem.Spec PyProof.Rows L2
section
variable {f : Nat → Option Kd} {u i m : Nat} {K K2 : Kd}
theorem upf_off (h : i ≠ u) : upf f u K2 i = f i := by unfold upf; rw [if_neg h]
theorem upf_at : upf f u K2 u = some K2 := by unfold upf; rw [if_pos rfl]
theorem Res.upd (h : Res f i m K) (hu : f u = none) (ne : K ≠ .v u) : Res (upf f u K2) i m K := by
  induction h with
  | stop e => exact .stop (by rw [upf_off (fun z => ne (by rw [z]))]; exact e)
  | @val i K e v => exact .val (by rw [upf_off (fun z => by rw [z, hu] at e; cases e)]; exact e) v
  | @step i j m K e _ ih => exact .step (by rw [upf_off (fun z => by rw [z, hu] at e; cases e)]; exact e) (ih ne)
theorem Res.updv {m0 : Nat} {K0 : Kd} (h : Res f i m (.v u)) (hu : f u = none) (h0 : Res (upf f u K2) u m0 K0) : Res (upf f u K2) i (m + m0) K0 := by
  generalize hK : Kd.v u = K at h
  induction h with
  | stop e => cases hK; simpa using h0
  | val e v => subst hK; cases v
  | @step i j m K e _ ih =>
    have := Res.step (f := upf f u K2) (i := i) (j := j) (by rw [upf_off (fun z => by rw [z, hu] at e; cases e)]; exact e) (ih hK)
    rw [Nat.add_right_comm]; exact this
/-- the root itself -/
theorem Res.at_root (hK : K2.isV = false) : Res (upf f u K2) u 1 K2 := .val upf_at hK
theorem Res.at_root_v {w : Nat} (ne : w ≠ u) (hw : f w = none) : Res (upf f u (.v w)) u 1 (.v w) := .step upf_at (.stop (by rw [upf_off ne]; exact hw))
/-- what stands at the end of a chain -/
theorem Res.root {w : Nat} (h : Res f i m (.v w)) : f w = none := by
  generalize hK : Kd.v w = K at h
  induction h with
  | stop e => cases hK; exact e
  | val e v => subst hK; cases v
  | step e _ ih => exact ih hK
end
end FH.K06
end
section
namespace FH.K06
open PySem PySem.Spec PyProof.Rows L2
theorem g4 : fs[4]? = some ⟨1, 1, b4⟩ := rfl
theorem g12 : fs[12]? = some ⟨1, 2, b12⟩ := rfl
def solC (t l : Nat) : Cell := .ins 0 [("told", .ref t), ("limits", .ref l)]
theorem q5 : ¬ (("told" : Str) = "limits") := by decide +kernel
theorem init {k : Nat} {μ : Store} : run fs (k + 1) 4 [.ref μ.length] (μ ++ [.ins 0 []]) = some (.non, μ ++ [solC (μ.length + 1) (μ.length + 2), .dic [], .lst []]) := by
  rw [run_eq g4 rfl]
  have a1 : (μ ++ [Cell.ins 0 [], .dic []])[μ.length]? = some (.ins 0 []) := by simp
  have a2 : ∀ c : Cell, (μ ++ [c, Cell.dic [], .lst []])[μ.length]? = some c := fun c => by simp
  simp [start0, b4, evE, evEs, evO, evC, evF, evSrc, evIn, evS, evSs, Option.bind_some, Option.map_some, Option.bind_none, Option.map_none, List.map_cons, List.map_nil, slot_c0, slot_cs, own_c0, own_cs, ownv_c0, ownv_cs, ownt_c0, tup_c0, tup_cs, view_int, view_str, view_bl, view_non, view_tup, view_lst, view_ty, view_fn, p_bin, p_neg, p_cmp, p_ix, p_len_tup, p_len_lst, p_abs, p_int, p_intb, p_isi, p_tuple_tup, p_tuple_lst, p_max, p_min, b_add_int, b_sub_int, c_lt, c_le, c_gt, c_ge, c_eq, c_ne, ix_tup, ix_lst, at0, at1, at2, at3, at4, at5, eq_int, eq_str, eq_bl, truD, set_c0, set_cs, setS_c, isi_tuple_tup, isi_tuple_lst, isi_tuple_str, isi_tuple_int, isi_tuple_non, isi_tuple_bl, isi_str_str, isi_str_tup, isi_str_int, isi_str_non, isi_str_lst, isi_str_bl, if_true_, if_false_, insAt, a1, a2, putD, q3, q5, le_size, retOf, solC]
theorem twin {k n t l : Nat} {μ : Store} {T : List (Key × D)} {L : List D} (S : Sol μ n t l T L) :
    run fs (k + 3) 12 [.ref n] μ = some (.ref μ.length, μ ++ [solC (μ.length + 3) (μ.length + 4), .dic [], .lst [], .dic T, .lst L]) := by
  rw [run_eq g12 rfl]
  have e1 := init (k := k) (μ := μ)
  have inits : (runP fs (k + 2)).2 = run fs (k + 1) := rfl
  have a1 : ∀ X : Store, (μ ++ X)[n]? = some (.ins 0 [("told", .ref t), ("limits", .ref l)]) := fun X => by rw [List.getElem?_append_left (at_lt S.n)]; exact S.n
  have a2 : ∀ X : Store, (μ ++ X)[t]? = some (.dic T) := fun X => by rw [List.getElem?_append_left (at_lt S.t)]; exact S.t
  have a3 : ∀ X : Store, (μ ++ X)[l]? = some (.lst L) := fun X => by rw [List.getElem?_append_left (at_lt S.l)]; exact S.l
  have a4 : ∀ X : Store, viewD (μ ++ X) (.ref l) = .lst L := fun X => view_lstc (a3 X)
  simp [start0, b12, evE, evEs, evO, evC, evF, evSrc, evIn, evS, evSs, Option.bind_some, Option.map_some, Option.bind_none, Option.map_none, List.map_cons, List.map_nil, slot_c0, slot_cs, own_c0, own_cs, ownv_c0, ownv_cs, ownt_c0, tup_c0, tup_cs, view_int, view_str, view_bl, view_non, view_tup, view_lst, view_ty, view_fn, p_bin, p_neg, p_cmp, p_ix, p_len_tup, p_len_lst, p_abs, p_int, p_intb, p_isi, p_tuple_tup, p_tuple_lst, p_max, p_min, b_add_int, b_sub_int, c_lt, c_le, c_gt, c_ge, c_eq, c_ne, ix_tup, ix_lst, at0, at1, at2, at3, at4, at5, eq_int, eq_str, eq_bl, truD, set_c0, set_cs, setS_c, isi_tuple_tup, isi_tuple_lst, isi_tuple_str, isi_tuple_int, isi_tuple_non, isi_tuple_bl, isi_str_str, isi_str_tup, isi_str_int, isi_str_non, isi_str_lst, isi_str_bl, if_true_, if_false_, inits, e1, a1, a2, a4, fld_told, fld_lim, insAt, putD, solC, q3, q4, q5, retOf]
end FH.K06
end
section
namespace FH.K06
open PySem PySem.Spec PyProof.Rows L2
theorem g13 : fs[13]? = some ⟨1, 4, b13⟩ := rfl
theorem g14 : fs[14]? = some ⟨2, 2, b14⟩ := rfl
theorem g25 : fs[25]? = some ⟨1, 4, b25⟩ := rfl
theorem g26 : fs[26]? = some ⟨2, 2, b26⟩ := rfl
/-- the numbers given so far -/
abbrev Nm := List (Nat × Nat)
def dk (o : Int) (M : Nm) : List (Key × D) := M.map fun p => (.inl ((p.1 : Int) + o), .int (p.2 : Int))
theorem dk_get {o : Int} {M : Nm} {i : Nat} : getK (dk o M) (.inl ((i : Int) + o)) = (M.lookup i).map fun j : Nat => D.int (j : Int) := by
  induction M with
  | nil => rfl
  | cons p M ih =>
    unfold getK dk at ih ⊢
    rw [List.map_cons, List.find?_cons, List.lookup_cons]
    by_cases h : p.1 = i
    · subst h; simp
    · have h1 : ¬ ((Sum.inl ((p.1 : Int) + o) : Key) = Sum.inl ((i : Int) + o)) := fun z => by have := Sum.inl.inj z; omega
      have h2 : (i == p.1) = false := by simpa using fun e => h e.symm
      simp only [h1, decide_false, h2]
      exact ih
def ren1 (M : Nm) (i : Nat) : Nat × Nm := match M.lookup i with
  | some j => (j, M)
  | none => (M.length, M ++ [(i, M.length)])
def renK (M : Nm) : Kd → Kd × Nm
  | .b s => (.b s, M)
  | .v i => (.v (ren1 M i).1, (ren1 M i).2)
  | .rb s => (.rb s, M)
  | .rv i => (.rv (ren1 M i).1, (ren1 M i).2)
theorem dk_len {o : Int} {M : Nm} : (dk o M).length = M.length := by simp [dk]
section
variable {k d : Nat} {μ : Store} {M : Nm}
theorem anew_v {i : Nat} (h : μ[d]? = some (.dic (dk 0 M))) (hl : M.length < 1000) : run fs (k + 2) 14 [(Kd.v i).e 0, .ref d] μ = some ((Kd.v (ren1 M i).1).e 0, μ.set d (.dic (dk 0 (ren1 M i).2))) := by
  rw [run_eq g14 rfl]
  have e1 := is_some (k := k) (o := 0) (K := .v i) (μ := μ)
  have e2 := dk_get (o := 0) (M := M) (i := i)
  simp only [Kd.e, some_, Int.add_zero, Kd.isV] at e1 e2
  cases hm : M.lookup i with
  | some j =>
    rw [hm] at e2
    have same : μ.set d (.dic (dk 0 M)) = μ := set_same h
    simp [start0, b14, evE, evEs, evO, evC, evF, evSrc, evIn, evS, evSs, Option.bind_some, Option.map_some, Option.bind_none, Option.map_none, List.map_cons, List.map_nil, slot_c0, slot_cs, own_c0, own_cs, ownv_c0, ownv_cs, ownt_c0, tup_c0, tup_cs, view_int, view_str, view_bl, view_non, view_tup, view_lst, view_ty, view_fn, p_bin, p_neg, p_cmp, p_ix, p_len_tup, p_len_lst, p_abs, p_int, p_intb, p_isi, p_tuple_tup, p_tuple_lst, p_max, p_min, b_add_int, b_sub_int, c_lt, c_le, c_gt, c_ge, c_eq, c_ne, ix_tup, ix_lst, at0, at1, at2, at3, at4, at5, eq_int, eq_str, eq_bl, truD, set_c0, set_cs, setS_c, isi_tuple_tup, isi_tuple_lst, isi_tuple_str, isi_tuple_int, isi_tuple_non, isi_tuple_bl, isi_str_str, isi_str_tup, isi_str_int, isi_str_non, isi_str_lst, isi_str_bl, if_true_, if_false_, Kd.e, some_, e1, h, keyD, e2, dk_len, lt_size (Nat.le_of_lt hl), le_size, retOf, ren1, hm, same]
  | none =>
    rw [hm] at e2
    have app : dk 0 (M ++ [(i, M.length)]) = dk 0 M ++ [(.inl (i : Int), .int (M.length : Int))] := by simp [dk]
    simp [start0, b14, evE, evEs, evO, evC, evF, evSrc, evIn, evS, evSs, Option.bind_some, Option.map_some, Option.bind_none, Option.map_none, List.map_cons, List.map_nil, slot_c0, slot_cs, own_c0, own_cs, ownv_c0, ownv_cs, ownt_c0, tup_c0, tup_cs, view_int, view_str, view_bl, view_non, view_tup, view_lst, view_ty, view_fn, p_bin, p_neg, p_cmp, p_ix, p_len_tup, p_len_lst, p_abs, p_int, p_intb, p_isi, p_tuple_tup, p_tuple_lst, p_max, p_min, b_add_int, b_sub_int, c_lt, c_le, c_gt, c_ge, c_eq, c_ne, ix_tup, ix_lst, at0, at1, at2, at3, at4, at5, eq_int, eq_str, eq_bl, truD, set_c0, set_cs, setS_c, isi_tuple_tup, isi_tuple_lst, isi_tuple_str, isi_tuple_int, isi_tuple_non, isi_tuple_bl, isi_str_str, isi_str_tup, isi_str_int, isi_str_non, isi_str_lst, isi_str_bl, if_true_, if_false_, Kd.e, some_, e1, h, keyD, e2, dk_len, lt_size (Nat.le_of_lt hl), le_size, retOf, ren1, hm, app]
theorem anew {K : Kd} (h : μ[d]? = some (.dic (dk 0 M))) (hl : M.length < 1000) : run fs (k + 3) 14 [K.e 0, .ref d] μ = some ((renK M K).1.e 0, μ.set d (.dic (dk 0 (renK M K).2))) := by
  have base : ∀ {k : Nat} {s : Bs}, run fs (k + 2) 14 [(Kd.b s).e 0, .ref d] μ = some ((Kd.b s).e 0, μ) := by
    intro k s
    rw [run_eq g14 rfl]
    have e1 := is_some (k := k) (o := 0) (K := .b s) (μ := μ)
    obtain ⟨z, w1, w2, w3⟩ := bs_ix (s := s)
    simp only [Kd.e, Kd.isV] at e1
    simp [start0, b14, evE, evEs, evO, evC, evF, evSrc, evIn, evS, evSs, Option.bind_some, Option.map_some, Option.bind_none, Option.map_none, List.map_cons, List.map_nil, slot_c0, slot_cs, own_c0, own_cs, ownv_c0, ownv_cs, ownt_c0, tup_c0, tup_cs, view_int, view_str, view_bl, view_non, view_tup, view_lst, view_ty, view_fn, p_bin, p_neg, p_cmp, p_ix, p_len_tup, p_len_lst, p_abs, p_int, p_intb, p_isi, p_tuple_tup, p_tuple_lst, p_max, p_min, b_add_int, b_sub_int, c_lt, c_le, c_gt, c_ge, c_eq, c_ne, ix_tup, ix_lst, at0, at1, at2, at3, at4, at5, eq_int, eq_str, eq_bl, truD, set_c0, set_cs, setS_c, isi_tuple_tup, isi_tuple_lst, isi_tuple_str, isi_tuple_int, isi_tuple_non, isi_tuple_bl, isi_str_str, isi_str_tup, isi_str_int, isi_str_non, isi_str_lst, isi_str_bl, if_true_, if_false_, Kd.e, e1, w1, w3, retOf]
  have row : ∀ (R R' : D) (μ' : Store), run fs (k + 2) 14 [R, .ref d] μ = some (R', μ') → (∀ k, run fs (k + 1) 3 [row_ R] μ = some (.bl false, μ)) → run fs (k + 3) 14 [row_ R, .ref d] μ = some (row_ R', μ') := by
    intro R R' μ' h1 h2
    rw [run_eq g14 rfl]
    have h2 := h2 (k + 1)
    unfold row_ at h2 ⊢
    simp [start0, b14, evE, evEs, evO, evC, evF, evSrc, evIn, evS, evSs, Option.bind_some, Option.map_some, Option.bind_none, Option.map_none, List.map_cons, List.map_nil, slot_c0, slot_cs, own_c0, own_cs, ownv_c0, ownv_cs, ownt_c0, tup_c0, tup_cs, view_int, view_str, view_bl, view_non, view_tup, view_lst, view_ty, view_fn, p_bin, p_neg, p_cmp, p_ix, p_len_tup, p_len_lst, p_abs, p_int, p_intb, p_isi, p_tuple_tup, p_tuple_lst, p_max, p_min, b_add_int, b_sub_int, c_lt, c_le, c_gt, c_ge, c_eq, c_ne, ix_tup, ix_lst, at0, at1, at2, at3, at4, at5, eq_int, eq_str, eq_bl, truD, set_c0, set_cs, setS_c, isi_tuple_tup, isi_tuple_lst, isi_tuple_str, isi_tuple_int, isi_tuple_non, isi_tuple_bl, isi_str_str, isi_str_tup, isi_str_int, isi_str_non, isi_str_lst, isi_str_bl, if_true_, if_false_, h2, h1, le_size, retOf]
  cases K with
  | b s => simp only [renK]; rw [base, set_same h]
  | v i => exact anew_v h hl
  | rb s =>
    simp only [renK]
    rw [set_same h]
    exact row _ _ _ base fun k => is_some (K := .rb s) (o := 0)
  | rv i => exact row _ _ _ (anew_v h hl) fun k => is_some (K := .rv i) (o := 0)
/-- no var twice -/
def Fn1 (M : Nm) : Prop := ∀ p ∈ M, M.lookup p.1 = some p.2
theorem look_app {M : Nm} {i j x : Nat} : (M ++ [(i, j)]).lookup x = match M.lookup x with | some y => some y | none => if x = i then some j else none := by
  induction M with
  | nil =>
    by_cases h : x = i
    · subst h; simp [List.lookup]
    · have : (x == i) = false := by simpa using h
      simp [List.lookup, this, h]
  | cons p M ih =>
    rw [List.cons_append, List.lookup_cons, List.lookup_cons]
    cases x == p.1 with
    | true => rfl
    | false => exact ih
theorem Fn1.ren {M : Nm} (h : Fn1 M) (i : Nat) : Fn1 (ren1 M i).2 := by
  unfold ren1
  cases hm : M.lookup i with
  | some j => exact h
  | none =>
    intro p hp
    show (M ++ [(i, M.length)]).lookup p.1 = some p.2
    rw [look_app]
    rcases List.mem_append.mp hp with hp | hp
    · rw [h p hp]
    · rw [List.mem_singleton.mp hp]
      show (match M.lookup i with | some y => some y | none => if i = i then some M.length else none) = _
      rw [hm]; simp
theorem lren_v {i : Nat} (fn : Fn1 M) (h : μ[d]? = some (.dic (dk 1 M))) (hl : M.length < 1000) : run fs (k + 1) 26 [(Kd.v i).e 1, .ref d] μ = some ((Kd.v (ren1 M i).1).e 0, μ.set d (.dic (dk 1 (ren1 M i).2))) := by
  rw [run_eq g26 rfl]
  have e2 := dk_get (o := 1) (M := M) (i := i)
  cases hm : M.lookup i with
  | some j =>
    rw [hm] at e2
    have hs : setK (dk 1 M) (.inl ((i : Int) + 1)) (.int (j : Int)) = dk 1 M := by
      unfold setK
      rw [getK_none, e2]
      simp only [Option.map_some, Option.isSome_some, if_true]
      unfold dk
      rw [List.map_map]
      refine List.map_congr_left fun p hp => ?_
      show (if (Sum.inl ((p.1 : Int) + 1) : Key) = Sum.inl ((i : Int) + 1) then _ else _) = _
      by_cases e : p.1 = i
      · have := fn p hp
        rw [e, hm] at this
        have e3 := Option.some.inj this
        rw [if_pos (by rw [e])]
        rw [e3]
      · rw [if_neg (fun z => e (by have := Sum.inl.inj z; omega))]
    have same : μ.set d (.dic (dk 1 M)) = μ := set_same h
    simp [start0, b26, evE, evEs, evO, evC, evF, evSrc, evIn, evS, evSs, Option.bind_some, Option.map_some, Option.bind_none, Option.map_none, List.map_cons, List.map_nil, slot_c0, slot_cs, own_c0, own_cs, ownv_c0, ownv_cs, ownt_c0, tup_c0, tup_cs, view_int, view_str, view_bl, view_non, view_tup, view_lst, view_ty, view_fn, p_bin, p_neg, p_cmp, p_ix, p_len_tup, p_len_lst, p_abs, p_int, p_intb, p_isi, p_tuple_tup, p_tuple_lst, p_max, p_min, b_add_int, b_sub_int, c_lt, c_le, c_gt, c_ge, c_eq, c_ne, ix_tup, ix_lst, at0, at1, at2, at3, at4, at5, eq_int, eq_str, eq_bl, truD, set_c0, set_cs, setS_c, isi_tuple_tup, isi_tuple_lst, isi_tuple_str, isi_tuple_int, isi_tuple_non, isi_tuple_bl, isi_str_str, isi_str_tup, isi_str_int, isi_str_non, isi_str_lst, isi_str_bl, if_true_, if_false_, Kd.e, some_, q1, h, keyD, e2, dk_len, lt_size (Nat.le_of_lt hl), le_size, retOf, ren1, hm, hs, same]
  | none =>
    rw [hm] at e2
    have hs : setK (dk 1 M) (.inl ((i : Int) + 1)) (.int (M.length : Int)) = dk 1 (M ++ [(i, M.length)]) := by
      unfold setK
      rw [getK_none, e2]
      simp [dk]
    have hg : getK (dk 1 (M ++ [(i, M.length)])) (.inl ((i : Int) + 1)) = some (.int (M.length : Int)) := by
      rw [← hs, getK_set, if_pos rfl]
    have sg : (μ.set d (.dic (dk 1 (M ++ [(i, M.length)]))))[d]? = some (.dic (dk 1 (M ++ [(i, M.length)]))) := set_at h
    simp [start0, b26, evE, evEs, evO, evC, evF, evSrc, evIn, evS, evSs, Option.bind_some, Option.map_some, Option.bind_none, Option.map_none, List.map_cons, List.map_nil, slot_c0, slot_cs, own_c0, own_cs, ownv_c0, ownv_cs, ownt_c0, tup_c0, tup_cs, view_int, view_str, view_bl, view_non, view_tup, view_lst, view_ty, view_fn, p_bin, p_neg, p_cmp, p_ix, p_len_tup, p_len_lst, p_abs, p_int, p_intb, p_isi, p_tuple_tup, p_tuple_lst, p_max, p_min, b_add_int, b_sub_int, c_lt, c_le, c_gt, c_ge, c_eq, c_ne, ix_tup, ix_lst, at0, at1, at2, at3, at4, at5, eq_int, eq_str, eq_bl, truD, set_c0, set_cs, setS_c, isi_tuple_tup, isi_tuple_lst, isi_tuple_str, isi_tuple_int, isi_tuple_non, isi_tuple_bl, isi_str_str, isi_str_tup, isi_str_int, isi_str_non, isi_str_lst, isi_str_bl, if_true_, if_false_, Kd.e, some_, q1, h, keyD, e2, dk_len, lt_size (Nat.le_of_lt hl), le_size, retOf, ren1, hm, hs, sg, hg]
theorem lren {K : Kd} (fn : Fn1 M) (h : μ[d]? = some (.dic (dk 1 M))) (hl : M.length < 1000) : run fs (k + 2) 26 [K.e 1, .ref d] μ = some ((renK M K).1.e 0, μ.set d (.dic (dk 1 (renK M K).2))) := by
  have base : ∀ {k : Nat} {s : Bs}, run fs (k + 1) 26 [(Kd.b s).e 1, .ref d] μ = some ((Kd.b s).e 0, μ) := by
    intro k s
    rw [run_eq g26 rfl]
    simp [start0, b26, evE, evEs, evO, evC, evF, evSrc, evIn, evS, evSs, Option.bind_some, Option.map_some, Option.bind_none, Option.map_none, List.map_cons, List.map_nil, slot_c0, slot_cs, own_c0, own_cs, ownv_c0, ownv_cs, ownt_c0, tup_c0, tup_cs, view_int, view_str, view_bl, view_non, view_tup, view_lst, view_ty, view_fn, p_bin, p_neg, p_cmp, p_ix, p_len_tup, p_len_lst, p_abs, p_int, p_intb, p_isi, p_tuple_tup, p_tuple_lst, p_max, p_min, b_add_int, b_sub_int, c_lt, c_le, c_gt, c_ge, c_eq, c_ne, ix_tup, ix_lst, at0, at1, at2, at3, at4, at5, eq_int, eq_str, eq_bl, truD, set_c0, set_cs, setS_c, isi_tuple_tup, isi_tuple_lst, isi_tuple_str, isi_tuple_int, isi_tuple_non, isi_tuple_bl, isi_str_str, isi_str_tup, isi_str_int, isi_str_non, isi_str_lst, isi_str_bl, if_true_, if_false_, Kd.e, retOf]
  have row : ∀ (R R' : D) (μ' : Store), run fs (k + 1) 26 [R, .ref d] μ = some (R', μ') → run fs (k + 2) 26 [row_ R, .ref d] μ = some (row_ R', μ') := by
    intro R R' μ' h1
    rw [run_eq g26 rfl]
    unfold row_
    simp [start0, b26, evE, evEs, evO, evC, evF, evSrc, evIn, evS, evSs, Option.bind_some, Option.map_some, Option.bind_none, Option.map_none, List.map_cons, List.map_nil, slot_c0, slot_cs, own_c0, own_cs, ownv_c0, ownv_cs, ownt_c0, tup_c0, tup_cs, view_int, view_str, view_bl, view_non, view_tup, view_lst, view_ty, view_fn, p_bin, p_neg, p_cmp, p_ix, p_len_tup, p_len_lst, p_abs, p_int, p_intb, p_isi, p_tuple_tup, p_tuple_lst, p_max, p_min, b_add_int, b_sub_int, c_lt, c_le, c_gt, c_ge, c_eq, c_ne, ix_tup, ix_lst, at0, at1, at2, at3, at4, at5, eq_int, eq_str, eq_bl, truD, set_c0, set_cs, setS_c, isi_tuple_tup, isi_tuple_lst, isi_tuple_str, isi_tuple_int, isi_tuple_non, isi_tuple_bl, isi_str_str, isi_str_tup, isi_str_int, isi_str_non, isi_str_lst, isi_str_bl, if_true_, if_false_, h1, le_size, retOf]
  cases K with
  | b s => simp only [renK]; rw [base, set_same h]
  | v i => exact lren_v fn h hl
  | rb s =>
    simp only [renK]
    rw [set_same h]
    exact row _ _ _ base
  | rv i => exact row _ _ _ (lren_v fn h hl)
theorem Fn1.renK {M : Nm} (h : Fn1 M) (K : Kd) : Fn1 (renK M K).2 := by
  cases K with
  | b s => exact h
  | v i => exact h.ren i
  | rb s => exact h
  | rv i => exact h.ren i
theorem renK_len {M : Nm} {K : Kd} : (renK M K).2.length ≤ M.length + 1 := by
  have r : ∀ i, (ren1 M i).2.length ≤ M.length + 1 := fun i => by
    unfold ren1
    cases M.lookup i with
    | some j => exact Nat.le_succ _
    | none => simp
  cases K with
  | b s => exact Nat.le_succ _
  | v i => exact r i
  | rb s => exact Nat.le_succ _
  | rv i => exact r i
/-- all of them -/
def renL (M : Nm) : List Kd → List Kd × Nm
  | [] => ([], M)
  | K :: Ks => ((renK M K).1 :: (renL (renK M K).2 Ks).1, (renL (renK M K).2 Ks).2)
theorem num_loop {o : Int} {g x : Nat} {Γ : Env2} {s0 : Slot} (step : ∀ {K : Kd} {M : Nm} {μ : Store}, Fn1 M → μ[d]? = some (.dic (dk o M)) → M.length < 1000 → Γ.fns g [K.e o, .ref d] μ = some ((renK M K).1.e 0, μ.set d (.dic (dk o (renK M K).2)))) :
    ∀ (Ks : List Kd) (M : Nm) (μ : Store) (acc : List D) (s3 : Slot), Fn1 M → μ[d]? = some (.dic (dk o M)) → M.length + Ks.length < 1000 → acc.length + Ks.length < 1000 →
      ∃ s', loopF (fun x ρ μ => (asgT (.nm 3) x ρ).bind fun ρ' => evSs Γ (.cons (.appOwn 2 (.call "anew" g (.cons (.var 3) (.cons (.var 1) .nil)))) .nil) ρ' μ) (Ks.map (Kd.e o)) [s0, .val (.ref d), .own (.lst acc), s3] μ =
        some (.nx, [s0, .val (.ref d), .own (.lst (acc ++ (renL M Ks).1.map (Kd.e 0))), s'], μ.set d (.dic (dk o (renL M Ks).2)))
  | [], M, μ, acc, s3, fn, h, _, _ => ⟨s3, by simp [loopF, renL, set_same h]⟩
  | K :: Ks, M, μ, acc, s3, fn, h, hl, ha => by
    simp only [List.length_cons] at hl ha
    have e1 := step (K := K) fn h (by omega)
    have hl2 := renK_len (M := M) (K := K)
    obtain ⟨s', e2⟩ := num_loop (x := x) (s0 := s0) step Ks (renK M K).2 (μ.set d (.dic (dk o (renK M K).2))) (acc ++ [(renK M K).1.e 0]) (.val (K.e o)) (fn.renK K) (set_at h) (by omega) (by simp; omega)
    refine ⟨s', ?_⟩
    rw [List.map_cons]
    generalize K.e o = kk at *
    have t : (asgT (.nm 3) kk [s0, .val (.ref d), .own (.lst acc), s3]).bind (fun ρ' => evSs Γ (.cons (.appOwn 2 (.call "anew" g (.cons (.var 3) (.cons (.var 1) .nil)))) .nil) ρ' μ) = some (.nx, [s0, .val (.ref d), .own (.lst (acc ++ [(renK M K).1.e 0])), .val kk], μ.set d (.dic (dk o (renK M K).2))) := by
      simp [asgT, evE, evEs, evO, evC, evF, evSrc, evIn, evS, evSs, Option.bind_some, Option.map_some, Option.bind_none, Option.map_none, List.map_cons, List.map_nil, slot_c0, slot_cs, own_c0, own_cs, ownv_c0, ownv_cs, ownt_c0, tup_c0, tup_cs, view_int, view_str, view_bl, view_non, view_tup, view_lst, view_ty, view_fn, p_bin, p_neg, p_cmp, p_ix, p_len_tup, p_len_lst, p_abs, p_int, p_intb, p_isi, p_tuple_tup, p_tuple_lst, p_max, p_min, b_add_int, b_sub_int, c_lt, c_le, c_gt, c_ge, c_eq, c_ne, ix_tup, ix_lst, at0, at1, at2, at3, at4, at5, eq_int, eq_str, eq_bl, truD, set_c0, set_cs, setS_c, isi_tuple_tup, isi_tuple_lst, isi_tuple_str, isi_tuple_int, isi_tuple_non, isi_tuple_bl, isi_str_str, isi_str_tup, isi_str_int, isi_str_non, isi_str_lst, isi_str_bl, if_true_, if_false_, e1, lt_size (show acc.length ≤ 1000 by omega)]
    simp only [loopF, t, Option.bind_some]
    rw [e2]
    simp [renL, List.set_set]
end
end FH.K06
end
section
namespace FH.K06
open PySem PySem.Spec PyProof.Rows L2
section
variable {k : Nat} {μ : Store} {Ks : List Kd}
theorem fn0 : Fn1 [] := fun p h => by simp at h
theorem numbered (hl : Ks.length < 900) : run fs (k + 5) 13 [.tup (Ks.map (Kd.e 0))] μ = some (.tup ((renL [] Ks).1.map (Kd.e 0)), μ ++ [.dic (dk 0 (renL [] Ks).2)]) := by
  rw [run_eq g13 rfl]
  have hd : (μ ++ [Cell.dic (dk 0 [])])[μ.length]? = some (.dic (dk 0 [])) := app_new
  obtain ⟨s', e⟩ := num_loop (o := 0) (g := 14) (x := 0) (d := μ.length) (Γ := ⟨run fs (k + 4), (runP fs (k + 4)).2⟩) (s0 := .val (.tup (Ks.map (Kd.e 0)))) (fun fn h hl => anew (k := k + 1) h hl) Ks [] (μ ++ [.dic (dk 0 [])]) [] .emp fn0 hd (by simp; omega) (by simp; omega)
  have fin : (μ ++ [Cell.dic (dk 0 [])]).set μ.length (.dic (dk 0 (renL [] Ks).2)) = μ ++ [.dic (dk 0 (renL [] Ks).2)] := by simp
  rw [fin] at e
  have p2 : evS ⟨run fs (k + 4), (runP fs (k + 4)).2⟩ (.fors (.nm 3) (.it (.var 0)) (.cons (.appOwn 2 (.call "anew" 14 (.cons (.var 3) (.cons (.var 1) .nil)))) .nil)) [.val (.tup (Ks.map (Kd.e 0))), .val (.ref μ.length), .own (.lst []), .emp] (μ ++ [.dic (dk 0 [])]) =
      some (.nx, [.val (.tup (Ks.map (Kd.e 0))), .val (.ref μ.length), .own (.lst ([] ++ (renL [] Ks).1.map (Kd.e 0))), s'], μ ++ [.dic (dk 0 (renL [] Ks).2)]) := by
    have src : evSrc ⟨run fs (k + 4), (runP fs (k + 4)).2⟩ (.it (.var 0)) [.val (.tup (Ks.map (Kd.e 0))), .val (.ref μ.length), .own (.lst []), .emp] (μ ++ [.dic (dk 0 [])]) = some (.items (Ks.map (Kd.e 0)), μ ++ [.dic (dk 0 [])]) := by
      simp [evE, evEs, evO, evC, evF, evSrc, evIn, evS, evSs, Option.bind_some, Option.map_some, Option.bind_none, Option.map_none, List.map_cons, List.map_nil, slot_c0, slot_cs, own_c0, own_cs, ownv_c0, ownv_cs, ownt_c0, tup_c0, tup_cs, view_int, view_str, view_bl, view_non, view_tup, view_lst, view_ty, view_fn, p_bin, p_neg, p_cmp, p_ix, p_len_tup, p_len_lst, p_abs, p_int, p_intb, p_isi, p_tuple_tup, p_tuple_lst, p_max, p_min, b_add_int, b_sub_int, c_lt, c_le, c_gt, c_ge, c_eq, c_ne, ix_tup, ix_lst, at0, at1, at2, at3, at4, at5, eq_int, eq_str, eq_bl, truD, set_c0, set_cs, setS_c, isi_tuple_tup, isi_tuple_lst, isi_tuple_str, isi_tuple_int, isi_tuple_non, isi_tuple_bl, isi_str_str, isi_str_tup, isi_str_int, isi_str_non, isi_str_lst, isi_str_bl, if_true_, if_false_, itemsD]
    simp only [evS, src, Option.bind_some]
    exact e
  have p1 : evS ⟨run fs (k + 4), (runP fs (k + 4)).2⟩ (.par 1 2 (.v .celld) (.o (.disp .nil))) [.val (.tup (Ks.map (Kd.e 0))), .emp, .emp, .emp] μ = some (.nx, [.val (.tup (Ks.map (Kd.e 0))), .val (.ref μ.length), .own (.lst []), .emp], μ ++ [.dic (dk 0 [])]) := by
    simp [evE, evEs, evO, evC, evF, evSrc, evIn, evS, evSs, Option.bind_some, Option.map_some, Option.bind_none, Option.map_none, List.map_cons, List.map_nil, slot_c0, slot_cs, own_c0, own_cs, ownv_c0, ownv_cs, ownt_c0, tup_c0, tup_cs, view_int, view_str, view_bl, view_non, view_tup, view_lst, view_ty, view_fn, p_bin, p_neg, p_cmp, p_ix, p_len_tup, p_len_lst, p_abs, p_int, p_intb, p_isi, p_tuple_tup, p_tuple_lst, p_max, p_min, b_add_int, b_sub_int, c_lt, c_le, c_gt, c_ge, c_eq, c_ne, ix_tup, ix_lst, at0, at1, at2, at3, at4, at5, eq_int, eq_str, eq_bl, truD, set_c0, set_cs, setS_c, isi_tuple_tup, isi_tuple_lst, isi_tuple_str, isi_tuple_int, isi_tuple_non, isi_tuple_bl, isi_str_str, isi_str_tup, isi_str_int, isi_str_non, isi_str_lst, isi_str_bl, if_true_, if_false_, dk, le_size]
  show retOf (evSs _ b13 [.val (.tup (Ks.map (Kd.e 0))), .emp, .emp, .emp] μ) = _
  unfold b13
  rw [evSs, p1, Option.bind_some]
  show retOf (evSs _ _ _ _) = _
  rw [evSs, p2, Option.bind_some]
  simp [evE, evEs, evO, evC, evF, evSrc, evIn, evS, evSs, Option.bind_some, Option.map_some, Option.bind_none, Option.map_none, List.map_cons, List.map_nil, slot_c0, slot_cs, own_c0, own_cs, ownv_c0, ownv_cs, ownt_c0, tup_c0, tup_cs, view_int, view_str, view_bl, view_non, view_tup, view_lst, view_ty, view_fn, p_bin, p_neg, p_cmp, p_ix, p_len_tup, p_len_lst, p_abs, p_int, p_intb, p_isi, p_tuple_tup, p_tuple_lst, p_max, p_min, b_add_int, b_sub_int, c_lt, c_le, c_gt, c_ge, c_eq, c_ne, ix_tup, ix_lst, at0, at1, at2, at3, at4, at5, eq_int, eq_str, eq_bl, truD, set_c0, set_cs, setS_c, isi_tuple_tup, isi_tuple_lst, isi_tuple_str, isi_tuple_int, isi_tuple_non, isi_tuple_bl, isi_str_str, isi_str_tup, isi_str_int, isi_str_non, isi_str_lst, isi_str_bl, if_true_, if_false_, retOf]
theorem lnumbered (hl : Ks.length < 900) : run fs (k + 5) 25 [.lst (Ks.map (Kd.e 1))] μ = some (.tup ((renL [] Ks).1.map (Kd.e 0)), μ ++ [.dic (dk 1 (renL [] Ks).2)]) := by
  rw [run_eq g25 rfl]
  have hd : (μ ++ [Cell.dic (dk 1 [])])[μ.length]? = some (.dic (dk 1 [])) := app_new
  obtain ⟨s', e⟩ := num_loop (o := 1) (g := 26) (x := 0) (d := μ.length) (Γ := ⟨run fs (k + 4), (runP fs (k + 4)).2⟩) (s0 := .val (.lst (Ks.map (Kd.e 1)))) (fun fn h hl => lren (k := k + 2) fn h hl) Ks [] (μ ++ [.dic (dk 1 [])]) [] .emp fn0 hd (by simp; omega) (by simp; omega)
  have fin : (μ ++ [Cell.dic (dk 1 [])]).set μ.length (.dic (dk 1 (renL [] Ks).2)) = μ ++ [.dic (dk 1 (renL [] Ks).2)] := by simp
  rw [fin] at e
  have p2 : evS ⟨run fs (k + 4), (runP fs (k + 4)).2⟩ (.fors (.nm 3) (.it (.var 0)) (.cons (.appOwn 2 (.call "_law_renamed" 26 (.cons (.var 3) (.cons (.var 1) .nil)))) .nil)) [.val (.lst (Ks.map (Kd.e 1))), .val (.ref μ.length), .own (.lst []), .emp] (μ ++ [.dic (dk 1 [])]) =
      some (.nx, [.val (.lst (Ks.map (Kd.e 1))), .val (.ref μ.length), .own (.lst ([] ++ (renL [] Ks).1.map (Kd.e 0))), s'], μ ++ [.dic (dk 1 (renL [] Ks).2)]) := by
    have src : evSrc ⟨run fs (k + 4), (runP fs (k + 4)).2⟩ (.it (.var 0)) [.val (.lst (Ks.map (Kd.e 1))), .val (.ref μ.length), .own (.lst []), .emp] (μ ++ [.dic (dk 1 [])]) = some (.items (Ks.map (Kd.e 1)), μ ++ [.dic (dk 1 [])]) := by
      simp [evE, evEs, evO, evC, evF, evSrc, evIn, evS, evSs, Option.bind_some, Option.map_some, Option.bind_none, Option.map_none, List.map_cons, List.map_nil, slot_c0, slot_cs, own_c0, own_cs, ownv_c0, ownv_cs, ownt_c0, tup_c0, tup_cs, view_int, view_str, view_bl, view_non, view_tup, view_lst, view_ty, view_fn, p_bin, p_neg, p_cmp, p_ix, p_len_tup, p_len_lst, p_abs, p_int, p_intb, p_isi, p_tuple_tup, p_tuple_lst, p_max, p_min, b_add_int, b_sub_int, c_lt, c_le, c_gt, c_ge, c_eq, c_ne, ix_tup, ix_lst, at0, at1, at2, at3, at4, at5, eq_int, eq_str, eq_bl, truD, set_c0, set_cs, setS_c, isi_tuple_tup, isi_tuple_lst, isi_tuple_str, isi_tuple_int, isi_tuple_non, isi_tuple_bl, isi_str_str, isi_str_tup, isi_str_int, isi_str_non, isi_str_lst, isi_str_bl, if_true_, if_false_, itemsD]
    simp only [evS, src, Option.bind_some]
    exact e
  have p1 : evSs ⟨run fs (k + 4), (runP fs (k + 4)).2⟩ b25 [.val (.lst (Ks.map (Kd.e 1))), .emp, .emp, .emp] μ = evSs ⟨run fs (k + 4), (runP fs (k + 4)).2⟩ (.cons (.fors (.nm 3) (.it (.var 0)) (.cons (.appOwn 2 (.call "_law_renamed" 26 (.cons (.var 3) (.cons (.var 1) .nil)))) .nil)) (.cons (.ret (.prim .tuple (.cons (.own 2) .nil))) .nil)) [.val (.lst (Ks.map (Kd.e 1))), .val (.ref μ.length), .own (.lst []), .emp] (μ ++ [.dic (dk 1 [])]) := by
    have a1 : evS ⟨run fs (k + 4), (runP fs (k + 4)).2⟩ (.set 1 .celld) [.val (.lst (Ks.map (Kd.e 1))), .emp, .emp, .emp] μ = some (.nx, [.val (.lst (Ks.map (Kd.e 1))), .val (.ref μ.length), .emp, .emp], μ ++ [.dic (dk 1 [])]) := by simp [evE, evEs, evO, evC, evF, evSrc, evIn, evS, evSs, Option.bind_some, Option.map_some, Option.bind_none, Option.map_none, List.map_cons, List.map_nil, slot_c0, slot_cs, own_c0, own_cs, ownv_c0, ownv_cs, ownt_c0, tup_c0, tup_cs, view_int, view_str, view_bl, view_non, view_tup, view_lst, view_ty, view_fn, p_bin, p_neg, p_cmp, p_ix, p_len_tup, p_len_lst, p_abs, p_int, p_intb, p_isi, p_tuple_tup, p_tuple_lst, p_max, p_min, b_add_int, b_sub_int, c_lt, c_le, c_gt, c_ge, c_eq, c_ne, ix_tup, ix_lst, at0, at1, at2, at3, at4, at5, eq_int, eq_str, eq_bl, truD, set_c0, set_cs, setS_c, isi_tuple_tup, isi_tuple_lst, isi_tuple_str, isi_tuple_int, isi_tuple_non, isi_tuple_bl, isi_str_str, isi_str_tup, isi_str_int, isi_str_non, isi_str_lst, isi_str_bl, if_true_, if_false_, dk]
    have a2 : evS ⟨run fs (k + 4), (runP fs (k + 4)).2⟩ (.setOwn 2 (.disp .nil)) [.val (.lst (Ks.map (Kd.e 1))), .val (.ref μ.length), .emp, .emp] (μ ++ [.dic (dk 1 [])]) = some (.nx, [.val (.lst (Ks.map (Kd.e 1))), .val (.ref μ.length), .own (.lst []), .emp], μ ++ [.dic (dk 1 [])]) := by simp [evE, evEs, evO, evC, evF, evSrc, evIn, evS, evSs, Option.bind_some, Option.map_some, Option.bind_none, Option.map_none, List.map_cons, List.map_nil, slot_c0, slot_cs, own_c0, own_cs, ownv_c0, ownv_cs, ownt_c0, tup_c0, tup_cs, view_int, view_str, view_bl, view_non, view_tup, view_lst, view_ty, view_fn, p_bin, p_neg, p_cmp, p_ix, p_len_tup, p_len_lst, p_abs, p_int, p_intb, p_isi, p_tuple_tup, p_tuple_lst, p_max, p_min, b_add_int, b_sub_int, c_lt, c_le, c_gt, c_ge, c_eq, c_ne, ix_tup, ix_lst, at0, at1, at2, at3, at4, at5, eq_int, eq_str, eq_bl, truD, set_c0, set_cs, setS_c, isi_tuple_tup, isi_tuple_lst, isi_tuple_str, isi_tuple_int, isi_tuple_non, isi_tuple_bl, isi_str_str, isi_str_tup, isi_str_int, isi_str_non, isi_str_lst, isi_str_bl, if_true_, if_false_, le_size]
    unfold b25
    rw [evSs, a1, Option.bind_some]
    show evSs _ _ _ _ = _
    rw [evSs, a2, Option.bind_some]
  show retOf (evSs _ b25 [.val (.lst (Ks.map (Kd.e 1))), .emp, .emp, .emp] μ) = _
  rw [p1, evSs, p2, Option.bind_some]
  simp [evE, evEs, evO, evC, evF, evSrc, evIn, evS, evSs, Option.bind_some, Option.map_some, Option.bind_none, Option.map_none, List.map_cons, List.map_nil, slot_c0, slot_cs, own_c0, own_cs, ownv_c0, ownv_cs, ownt_c0, tup_c0, tup_cs, view_int, view_str, view_bl, view_non, view_tup, view_lst, view_ty, view_fn, p_bin, p_neg, p_cmp, p_ix, p_len_tup, p_len_lst, p_abs, p_int, p_intb, p_isi, p_tuple_tup, p_tuple_lst, p_max, p_min, b_add_int, b_sub_int, c_lt, c_le, c_gt, c_ge, c_eq, c_ne, ix_tup, ix_lst, at0, at1, at2, at3, at4, at5, eq_int, eq_str, eq_bl, truD, set_c0, set_cs, setS_c, isi_tuple_tup, isi_tuple_lst, isi_tuple_str, isi_tuple_int, isi_tuple_non, isi_tuple_bl, isi_str_str, isi_str_tup, isi_str_int, isi_str_non, isi_str_lst, isi_str_bl, if_true_, if_false_, retOf]
end
end FH.K06
end
section
namespace FH.K06
open PySem PySem.Spec PyProof.Rows L2
/-- Full, its chains no longer than o without, c within -/
inductive FullB (o c : Nat) (f : Nat → Option Kd) (i : Nat) : Kd → Prop
  | flat {m : Nat} {K : Kd} : Res f i m K → m ≤ o → K.isR = false → FullB o c f i K
  | rb {m : Nat} {z : Bs} : Res f i m (.rb z) → m ≤ o → FullB o c f i (.rb z)
  | rv {m j m2 w : Nat} : Res f i m (.rv j) → m ≤ o → Res f j m2 (.v w) → m2 ≤ c → FullB o c f i (.rv w)
  | rvb {m j m2 : Nat} {z : Bs} : Res f i m (.rv j) → m ≤ o → Res f j m2 (.b z) → m2 ≤ c → FullB o c f i (.rb z)
theorem FullB.full {o c : Nat} {f : Nat → Option Kd} {i : Nat} {K : Kd} (h : FullB o c f i K) (ho : o < 1000) (hc : c < 1000) : Full f (.v i) K := by
  cases h with
  | flat h1 h2 h3 => exact .flat (m := _) h1 (by omega) h3
  | rb h1 h2 => exact .rb (m := _) h1 (by omega)
  | rv h1 h2 h3 h4 => exact .rv (m := _) h1 (by omega) h3 (by omega)
  | rvb h1 h2 h3 h4 => exact .rvb (m := _) h1 (by omega) h3 (by omega)
theorem FullB.mono {o c o' c' : Nat} {f : Nat → Option Kd} {i : Nat} {K : Kd} (h : FullB o c f i K) (ho : o ≤ o') (hc : c ≤ c') : FullB o' c' f i K := by
  cases h with
  | flat h1 h2 h3 => exact .flat h1 (by omega) h3
  | rb h1 h2 => exact .rb h1 (by omega)
  | rv h1 h2 h3 h4 => exact .rv h1 (by omega) h3 (by omega)
  | rvb h1 h2 h3 h4 => exact .rvb h1 (by omega) h3 (by omega)
/-- a full kind when u is bound: what u now stands for goes in its place -/
def Kd.row : Kd → Kd
  | .b z => .rb z
  | .v w => .rv w
  | K => K
def sub (u : Nat) (F0 : Kd) (F : Kd) : Kd := if F = .v u then F0 else if F = .rv u then F0.row else F
theorem FullB.upd {c : Nat} {f : Nat → Option Kd} {i u : Nat} {K2 F F0 : Kd} (h : FullB c c f i F) (hu : f u = none) (h0 : FullB 1 c (upf f u K2) u F0) (flat : F = .rv u → F0.isR = false) : FullB (c + 1) (c + 1) (upf f u K2) i (sub u F0 F) := by
  have at_u : ∀ {m : Nat} {x : Nat}, Res f x m (.v u) → m ≤ c → FullB (c + 1) (c + 1) (upf f u K2) x F0 := by
    intro m x r hm
    cases h0 with
    | flat a b e => exact .flat (r.updv hu a) (by omega) e
    | rb a b => exact .rb (r.updv hu a) (by omega)
    | rv a b d e => exact .rv (r.updv hu a) (by omega) d (by omega)
    | rvb a b d e => exact .rvb (r.updv hu a) (by omega) d (by omega)
  cases h with
  | @flat m K a b e =>
    unfold sub
    by_cases h1 : F = .v u
    · subst h1; rw [if_pos rfl]; exact at_u a b
    · rw [if_neg h1, if_neg (fun z => by rw [z] at e; cases e)]
      exact .flat (a.upd hu h1) (by omega) e
  | @rb m z a b =>
    have : sub u F0 (.rb z) = .rb z := by unfold sub; simp
    rw [this]; exact .rb (a.upd hu (by simp)) (by omega)
  | @rv m j m2 w a b d e =>
    by_cases hw : w = u
    · subst hw
      have s : sub w F0 (.rv w) = F0.row := by unfold sub; simp
      rw [s]
      have fl := flat rfl
      cases h0 with
      | @flat m0 K a0 b0 e0 =>
        have r2 := d.updv hu a0
        have r1 := a.upd (K2 := K2) hu (by simp)
        cases F0 with
        | b z => exact .rvb r1 (by omega) r2 (by omega)
        | v x => exact .rv r1 (by omega) r2 (by omega)
        | rb _ => cases fl
        | rv _ => cases fl
      | rb _ _ => cases fl
      | rv _ _ _ _ => cases fl
      | rvb _ _ _ _ => cases fl
    · have s : sub u F0 (.rv w) = .rv w := by unfold sub; simp [hw]
      rw [s]
      exact .rv (a.upd hu (by simp)) (by omega) (d.upd hu (by simp [hw])) (by omega)
  | @rvb m j m2 z a b d e =>
    have : sub u F0 (.rb z) = .rb z := by unfold sub; simp
    rw [this]; exact .rvb (a.upd hu (by simp)) (by omega) (d.upd hu (by simp)) (by omega)
/-- a kind as it stands, and in full -/
inductive Lk (c : Nat) (f : Nat → Option Kd) : Kd → Kd → Prop
  | flat {K : Kd} : K.isR = false → Lk c f K K
  | rb {z : Bs} : Lk c f (.rb z) (.rb z)
  | rv {j m w : Nat} : Res f j m (.v w) → m ≤ c → Lk c f (.rv j) (.rv w)
  | rvb {j m : Nat} {z : Bs} : Res f j m (.b z) → m ≤ c → Lk c f (.rv j) (.rb z)
def Plain (c : Nat) (f : Nat → Option Kd) (lim : Nat → Option Wd) (j : Nat) : Prop := ∃ m K, m ≤ c ∧ Res f j m K ∧ ((∃ z, K = .b z) ∨ ∃ w w0, K = .v w ∧ lim w = some w0 ∧ w0 ≠ .any)
structure Inv (N c : Nat) (f g : Nat → Option Kd) (lim : Nat → Option Wd) (KS : List Kd) : Prop where
  dom : ∀ i, (∃ w, lim i = some w) ↔ i < N
  out : ∀ i, N ≤ i → f i = none
  fg : ∀ i, f i = none ↔ g i = none
  com : ∀ i, i < N → ∃ F, FullB c c f i F ∧ FullB c c g i F
  st : ∀ i j, f i = some (.v j) → j < N
  ks : ∀ K ∈ KS, ∃ i, i < N ∧ (K = .v i ∨ K = .rv i)
  pl : ∀ j, (Kd.rv j ∈ KS ∨ ∃ i, f i = some (.rv j)) → j < N ∧ Plain c f lim j
/-- what unify may be handed -/
def Ent (KS : List Kd) (A : Kd) : Prop := A ∈ KS ∨ ∃ z, A = .b z
theorem FullB.lk {c : Nat} {f : Nat → Option Kd} {i : Nat} {F : Kd} (h : FullB c c f i F) : ∃ m K1, m ≤ c ∧ Res f i m K1 ∧ Lk c f K1 F := by
  cases h with
  | flat a b e => exact ⟨_, _, b, a, .flat e⟩
  | rb a b => exact ⟨_, _, b, a, .rb⟩
  | rv a b d e => exact ⟨_, _, b, a, .rv d e⟩
  | rvb a b d e => exact ⟨_, _, b, a, .rvb d e⟩
/-- a row at the end of a chain was bound -/
theorem Res.src {f : Nat → Option Kd} {i m : Nat} {K : Kd} (h : Res f i m K) (hK : K.isV = false) : ∃ i', f i' = some K := by
  induction h with
  | stop e => cases hK
  | val e v => exact ⟨_, e⟩
  | step e _ ih => exact ih hK
section
variable {N c : Nat} {f g : Nat → Option Kd} {lim : Nat → Option Wd} {KS : List Kd}
theorem FullB.flatR {o : Nat} {f : Nat → Option Kd} {i m : Nat} {F K : Kd} (h : FullB o c f i F) (r : Res f i m K) (hK : K.isR = false) : F = K := by
  cases h with
  | flat a b e => exact a.fun r
  | rb a b => have := a.fun r; rw [← this] at hK; cases hK
  | rv a b d e => have := a.fun r; rw [← this] at hK; cases hK
  | rvb a b d e => have := a.fun r; rw [← this] at hK; cases hK
theorem Inv.rt (I : Inv N c f g lim KS) {i m u : Nat} (h : Res f i m (.v u)) (hi : i < N) : u < N := by
  generalize hK : Kd.v u = K at h
  induction h with
  | stop e => cases hK; exact hi
  | val e v => subst hK; cases v
  | step e _ ih => exact ih (I.st _ _ e) hK
theorem Inv.ent (I : Inv N c f g lim KS) (cc : c < 500) {A : Kd} (h : Ent KS A) : ∃ m K1 F, m ≤ c ∧ Sh f A m K1 ∧ Lk c f K1 F ∧ Full g A F ∧ Full f A F ∧ (∀ u, K1 = .v u → u < N ∧ f u = none) ∧ (∀ j, K1 = .rv j → j < N ∧ Plain c f lim j) := by
  rcases h with h | ⟨z, rfl⟩
  · obtain ⟨i, hi, rfl | rfl⟩ := I.ks A h
    · obtain ⟨F, h1, h2⟩ := I.com i hi
      obtain ⟨m, K1, a, b, d⟩ := h1.lk
      refine ⟨m, K1, F, a, b, d, h2.full (by omega) (by omega), h1.full (by omega) (by omega), fun u e => ?_, fun j e => ?_⟩
      · subst e; exact ⟨I.rt b hi, b.root⟩
      · subst e; exact I.pl j (.inr (b.src rfl))
    · obtain ⟨hp, m, K, a, b, d⟩ := I.pl i (.inl h)
      obtain ⟨F, h1, h2⟩ := I.com i hi
      rcases d with ⟨z, rfl⟩ | ⟨w, w0, rfl, _, _⟩
      · have e : F = .b z := h1.flatR b rfl
        subst e
        refine ⟨0, .rv i, .rb z, by omega, ⟨rfl, rfl⟩, .rvb b a, ?_, .rvb (m := 0) (j := i) ⟨rfl, rfl⟩ (by omega) b (by omega), fun u e => (nomatch e), fun j e => by cases e; exact I.pl i (.inl h)⟩
        cases h2 with
        | flat a2 b2 _ => exact .rvb (m := 0) (j := i) ⟨rfl, rfl⟩ (by omega) a2 (by omega)
      · have e : F = .v w := h1.flatR b rfl
        subst e
        refine ⟨0, .rv i, .rv w, by omega, ⟨rfl, rfl⟩, .rv b a, ?_, .rv (m := 0) (j := i) ⟨rfl, rfl⟩ (by omega) b (by omega), fun u e => (nomatch e), fun j e => by cases e; exact I.pl i (.inl h)⟩
        cases h2 with
        | flat a2 b2 _ => exact .rv (m := 0) (j := i) ⟨rfl, rfl⟩ (by omega) a2 (by omega)
  · exact ⟨0, .b z, .b z, by omega, ⟨rfl, rfl⟩, .flat rfl, .flat (m := 0) ⟨rfl, rfl⟩ (by omega) rfl, .flat (m := 0) ⟨rfl, rfl⟩ (by omega) rfl, fun u e => (nomatch e), fun j e => (nomatch e)⟩
/-- a limit made stronger -/
theorem Inv.limit (I : Inv N c f g lim KS) {u : Nat} {w0 w1 : Wd} (h0 : lim u = some w0) (h1 : w0 ≠ .any → w1 ≠ .any) : Inv N c f g (upl lim u w1) KS where
  dom i := by
    unfold upl
    by_cases e : i = u
    · subst e
      have := (I.dom i).mp ⟨w0, h0⟩
      simp [this]
    · rw [if_neg e]; exact I.dom i
  out := I.out
  fg := I.fg
  com := I.com
  st := I.st
  ks := I.ks
  pl j hj := by
    obtain ⟨a, m, K, b, d, e⟩ := I.pl j hj
    refine ⟨a, m, K, b, d, ?_⟩
    rcases e with e | ⟨w, w2, e1, e2, e3⟩
    · exact .inl e
    · refine .inr ?_
      by_cases hw : w = u
      · subst hw
        rw [h0] at e2; cases e2
        exact ⟨w, w1, e1, by unfold upl; simp, h1 e3⟩
      · exact ⟨w, w2, e1, by unfold upl; rw [if_neg hw]; exact e2, e3⟩
theorem Plain.mono {c' : Nat} {j : Nat} (h : Plain c f lim j) (hc : c ≤ c') : Plain c' f lim j := by
  obtain ⟨m, K, b, d, e⟩ := h
  exact ⟨m, K, by omega, d, e⟩
theorem Inv.mono {c' : Nat} (I : Inv N c f g lim KS) (hc : c ≤ c') : Inv N c' f g lim KS where
  dom := I.dom
  out := I.out
  fg := I.fg
  com i hi := by
    obtain ⟨F, a, b⟩ := I.com i hi
    exact ⟨F, a.mono hc hc, b.mono hc hc⟩
  st := I.st
  ks := I.ks
  pl j hj := ⟨(I.pl j hj).1, (I.pl j hj).2.mono hc⟩
/-- u is bound -/
theorem Inv.bind (I : Inv N c f g lim KS) {u : Nat} {K2 F2 : Kd} {lim' : Nat → Option Wd} (hu : f u = none) (hf : FullB 1 c (upf f u K2) u F2) (hg : FullB 1 c (upf g u F2) u F2)
    (huN : u < N) (dom : ∀ i, (∃ w, lim' i = some w) ↔ i < N) (mon : ∀ i w, lim i = some w → w ≠ .any → ∃ w', lim' i = some w' ∧ w' ≠ .any)
    (flat : ∀ w0, lim u = some w0 → w0 ≠ .any → (∃ z, F2 = .b z) ∨ ∃ w w1, F2 = .v w ∧ lim' w = some w1 ∧ w1 ≠ .any)
    (st : ∀ j, K2 = .v j → j < N) (rv : ∀ j, K2 = .rv j → j < N ∧ Plain c f lim j) : Inv N (c + 1) (upf f u K2) (upf g u F2) lim' KS := by
  have hgu : g u = none := (I.fg u).mp hu
  have noflat : ∀ {w0}, lim u = some w0 → w0 ≠ .any → F2.isR = false := fun h1 h2 => by
    rcases flat _ h1 h2 with ⟨z, rfl⟩ | ⟨w, w1, rfl, _⟩ <;> rfl
  have plain : ∀ j, Plain c f lim j → Plain (c + 1) (upf f u K2) lim' j := by
    intro j ⟨m, K, b, d, e⟩
    rcases e with ⟨z, rfl⟩ | ⟨w, w0, rfl, e2, e3⟩
    · exact ⟨m, .b z, by omega, d.upd hu (by simp), .inl ⟨z, rfl⟩⟩
    · by_cases hw : w = u
      · subst hw
        rcases flat _ e2 e3 with ⟨z, rfl⟩ | ⟨x, w1, rfl, l1, l2⟩
        · cases hf with
          | flat a b' _ => exact ⟨m + _, .b z, by omega, d.updv hu a, .inl ⟨z, rfl⟩⟩
        · cases hf with
          | flat a b' _ => exact ⟨m + _, .v x, by omega, d.updv hu a, .inr ⟨x, w1, rfl, l1, l2⟩⟩
      · obtain ⟨w', l1, l2⟩ := mon w w0 e2 e3
        exact ⟨m, .v w, by omega, d.upd hu (by simp [hw]), .inr ⟨w, w', rfl, l1, l2⟩⟩
  refine ⟨dom, fun i hi => ?_, fun i => ?_, fun i hi => ?_, fun i j h => ?_, I.ks, fun j hj => ?_⟩
  · rw [upf_off (by omega)]; exact I.out i hi
  · unfold upf
    by_cases e : i = u
    · subst e; simp
    · rw [if_neg e, if_neg e]; exact I.fg i
  · obtain ⟨F, a, b⟩ := I.com i hi
    have fl : F = .rv u → F2.isR = false := by
      intro e; subst e
      cases a with
      | flat _ _ e => cases e
      | @rv m j m2 w a b d e =>
        obtain ⟨_, m', K, _, d', e'⟩ := I.pl j (.inr (a.src rfl))
        have := d'.fun d
        subst this
        rcases e' with ⟨z, e'⟩ | ⟨w, w0, e', l1, l2⟩
        · cases e'
        · cases e'; exact noflat l1 l2
    exact ⟨sub u F2 F, a.upd hu hf fl, b.upd hgu hg fl⟩
  · unfold upf at h
    by_cases e : i = u
    · rw [if_pos e] at h; exact st j (Option.some.inj h)
    · rw [if_neg e] at h; exact I.st i j h
  · rcases hj with h | ⟨i, h⟩
    · exact ⟨(I.pl j (.inl h)).1, plain j (I.pl j (.inl h)).2⟩
    · unfold upf at h
      by_cases e : i = u
      · rw [if_pos e] at h
        exact ⟨(rv j (Option.some.inj h)).1, plain j (rv j (Option.some.inj h)).2⟩
      · rw [if_neg e] at h
        exact ⟨(I.pl j (.inr ⟨i, h⟩)).1, plain j (I.pl j (.inr ⟨i, h⟩)).2⟩
/-- a new kind -/
theorem Inv.fresh (I : Inv N c f g lim KS) (w : Wd) : Inv (N + 1) c f g (upl lim N w) (KS ++ [.v N]) := by
  have off : ∀ {i : Nat}, i < N → upl lim N w i = lim i := fun h => by unfold upl; rw [if_neg (by omega)]
  refine ⟨fun i => ?_, fun i hi => I.out i (by omega), I.fg, fun i hi => ?_, fun i j h => Nat.lt_succ_of_lt (I.st i j h), fun K hK => ?_, fun j hj => ?_⟩
  · unfold upl
    by_cases e : i = N
    · subst e; simp
    · rw [if_neg e, I.dom i]; omega
  · by_cases e : i = N
    · subst e
      have := I.out i (Nat.le_refl _)
      exact ⟨.v i, .flat (.stop this) (Nat.zero_le _) rfl, .flat (.stop ((I.fg i).mp this)) (Nat.zero_le _) rfl⟩
    · exact I.com i (by omega)
  · rcases List.mem_append.mp hK with h | h
    · obtain ⟨i, a, b⟩ := I.ks K h
      exact ⟨i, by omega, b⟩
    · exact ⟨N, by omega, .inl (List.mem_singleton.mp h)⟩
  · have hj' : Kd.rv j ∈ KS ∨ ∃ i, f i = some (.rv j) := by
      rcases hj with h | h
      · rcases List.mem_append.mp h with h | h
        · exact .inl h
        · exact absurd (List.mem_singleton.mp h) (by simp)
      · exact .inr h
    obtain ⟨a, m, K, b, d, e⟩ := I.pl j hj'
    refine ⟨by omega, m, K, b, d, ?_⟩
    rcases e with e | ⟨x, w2, e1, e2, e3⟩
    · exact .inl e
    · have hx : x < N := (I.dom x).mp ⟨w2, e2⟩
      exact .inr ⟨x, w2, e1, by rw [off hx]; exact e2, e3⟩
/-- a new row -/
theorem Inv.row (I : Inv N c f g lim KS) {i : Nat} (hi : i < N) (hp : Plain c f lim i) : Inv N c f g lim (KS ++ [.rv i]) := by
  refine ⟨I.dom, I.out, I.fg, I.com, I.st, fun K hK => ?_, fun j hj => ?_⟩
  · rcases List.mem_append.mp hK with h | h
    · exact I.ks K h
    · exact ⟨i, hi, .inr (List.mem_singleton.mp h)⟩
  · rcases hj with h | h
    · rcases List.mem_append.mp h with h | h
      · exact I.pl j (.inl h)
      · cases List.mem_singleton.mp h
        exact ⟨hi, hp⟩
    · exact I.pl j (.inr h)
end
end FH.K06
end
section
namespace FH.K06
open PySem PySem.Spec PyProof.Rows L2
/-- nothing turns but at these -/
def Chg (P : List Nat) (μ μ' : Store) : Prop := μ'.length = μ.length ∧ ∀ i, i ∉ P → μ'[i]? = μ[i]?
theorem Chg.refl {P : List Nat} {μ : Store} : Chg P μ μ := ⟨rfl, fun _ _ => rfl⟩
theorem Chg.set {P : List Nat} {μ : Store} {i : Nat} {c : Cell} (h : i ∈ P) : Chg P μ (μ.set i c) := ⟨by simp, fun j hj => set_off (fun e => hj (e ▸ h))⟩
theorem Chg.trans {P : List Nat} {μ μ' μ'' : Store} (h : Chg P μ μ') (h' : Chg P μ' μ'') : Chg P μ μ'' := ⟨h'.1.trans h.1, fun i hi => (h'.2 i hi).trans (h.2 i hi)⟩
def SolS (z N n t l : Nat) (f : Nat → Option Kd) (lim : Nat → Option Wd) (μ : Store) : Prop := ∃ T L, Sol μ n t l T L ∧ TM 0 T f ∧ LL L lim ∧ T.length ≤ z ∧ L.length = N
def NetS (z N n a m : Nat) (g : Nat → Option Kd) (lim : Nat → Option Wd) (μ : Store) : Prop := ∃ T M, Net μ n a m T M (N : Int) ∧ TM 1 T g ∧ LM M lim ∧ T.length ≤ z ∧ M.length ≤ z
theorem Net.setA {μ : Store} {n a m : Nat} {T M T' : List (Key × D)} {c : Int} (S : Net μ n a m T M c) (am : a ≠ m) : Net (μ.set a (.dic T')) n a m T' M c :=
  ⟨by rw [set_off S.ne.1]; exact S.n, set_at S.a, by rw [set_off am]; exact S.m⟩
theorem Net.setM {μ : Store} {n a m : Nat} {T M M' : List (Key × D)} {c : Int} (S : Net μ n a m T M c) (am : a ≠ m) : Net (μ.set m (.dic M')) n a m T M' c :=
  ⟨by rw [set_off S.ne.2]; exact S.n, by rw [set_off (Ne.symm am)]; exact S.a, set_at S.m⟩
section
variable {k z N c n t l a m' : Nat} {μ : Store} {f g : Nat → Option Kd} {lim : Nat → Option Wd} {A B K1 K2 F1 F2 : Kd} {m1 m2 u v : Nat} {wu wv : Wd}
/-! the solver -/
theorem s_same (hS : SolS z N n t l f lim μ) (h1 : Sh f A m1 (.v u)) (b1 : m1 < 1000) (h2 : Sh f B m2 (.v u)) (b2 : m2 < 1000) (hf : f u = none) (hu : lim u = some wu) :
    ∃ μ', run fs (k + 5) 10 [.ref n, A.e 0, B.e 0] μ = some (.bl true, μ') ∧ Chg [t, l] μ μ' ∧ SolS (z + 1) N n t l f lim μ' := by
  obtain ⟨T, L, S, F, hL, hz, hn⟩ := hS
  exact ⟨μ, unify_1 S F h1 b1 h2 b2 (tell_same S F hL hf hu), .refl, T, L, S, F, hL, by omega, hn⟩
theorem s_var (hS : SolS z N n t l f lim μ) (zz : z < 1000) (h1 : Sh f A m1 (.v u)) (b1 : m1 < 1000) (h2 : Sh f B m2 (.v v)) (b2 : m2 < 1000) (hf : f v = none) (huv : v ≠ u) (hu : lim u = some wu) (hv : lim v = some wv) :
    ∃ μ', run fs (k + 5) 10 [.ref n, A.e 0, B.e 0] μ = some (.bl true, μ') ∧ Chg [t, l] μ μ' ∧ SolS (z + 1) N n t l (upf f u (.v v)) (upl lim v (wmax wu wv)) μ' := by
  obtain ⟨T, L, S, F, hL, hz, hn⟩ := hS
  refine ⟨_, unify_1 S F h1 b1 h2 b2 (tell_var S F hL (by omega) hf huv hu hv), .trans (.set (by simp)) (.set (by simp)), _, _, (S.setT _).setL _, ?_, hL.set hv _, ?_, by simpa using hn⟩
  · have := F.set u (.v v); simpa using this
  · have := @setK_len T (.inl (u : Int)) ((Kd.v v).e 0); omega
theorem s_bind (hS : SolS z N n t l f lim μ) (zz : z < 1000) (hv : K2.isV = false) (hu : lim u = some wu) (e : ∀ T L r, Sol μ n t l T L → TM 0 T f → run fs (k + 4) 9 [.ref n, (Kd.v u).e 0, K2.e 0] μ = some r → run fs (k + 5) 10 [.ref n, A.e 0, B.e 0] μ = some r) :
    ∃ μ', run fs (k + 5) 10 [.ref n, A.e 0, B.e 0] μ = some (.bl (lets K2 wu), μ') ∧ Chg [t, l] μ μ' ∧ SolS (z + 1) N n t l (upf f u K2) lim μ' := by
  obtain ⟨T, L, S, F, hL, hz, hn⟩ := hS
  refine ⟨_, e T L _ S F (tell_nonv S hL (by omega) hv hu), .set (by simp), _, _, S.setT _, ?_, hL, ?_, hn⟩
  · have := F.set u K2; simpa using this
  · have := @setK_len T (.inl (u : Int)) (K2.e 0); omega
theorem s_flat (hS : SolS z N n t l f lim μ) (h1 : Sh f A m1 K1) (b1 : m1 < 1000) (h2 : Sh f B m2 K2) (b2 : m2 < 1000) (n1 : K1.isV = false) (n2 : K2.isV = false) (nr : K1.isR = false ∨ K2.isR = false) :
    ∃ μ', run fs (k + 5) 10 [.ref n, A.e 0, B.e 0] μ = some (.bl (decide (K1 = K2)), μ') ∧ Chg [t, l] μ μ' ∧ SolS (z + 1) N n t l f lim μ' := by
  obtain ⟨T, L, S, F, hL, hz, hn⟩ := hS
  exact ⟨μ, unify_4 S F h1 b1 h2 b2 n1 n2 nr, .refl, T, L, S, F, hL, by omega, hn⟩
/-! the net -/
theorem n_same (hS : NetS z N n a m' g lim μ) (h1 : Full g A F1) (h2 : Full g B F1) :
    ∃ μ', run fs (k + 4) 20 [.ref n, A.e 1, B.e 1] μ = some (.bl true, μ') ∧ Chg [a, m'] μ μ' ∧ NetS (z + 1) N n a m' g lim μ' := by
  obtain ⟨T, M, S, F, hM, hz, hz2⟩ := hS
  exact ⟨μ, lunify_0 S F h1 h2, .refl, T, M, S, F, hM, by omega, by omega⟩
theorem n_rec (hS : NetS z N n a m' g lim μ) (e : run fs (k + 4) 20 [.ref n, A.e 1, B.e 1] μ = some (.bl false, μ)) :
    ∃ μ', run fs (k + 4) 20 [.ref n, A.e 1, B.e 1] μ = some (.bl false, μ') ∧ Chg [a, m'] μ μ' := ⟨μ, e, .refl⟩
theorem n_var (hS : NetS z N n a m' g lim μ) (am : a ≠ m') (zz : z < 900) (huv : v ≠ u) (gv : g v = none) (hv : lim v = some wv)
    (e : ∀ T M r, Net μ n a m' T M (N : Int) → TM 1 T g → LM M lim → T.length < 1000 → run fs (k + 3) 22 [.ref n, (Kd.v v).e 1, .str wu.s] (μ.set a (.dic (setK T (.inl ((u : Int) + 1)) ((Kd.v v).e 1)))) = some r → run fs (k + 4) 20 [.ref n, A.e 1, B.e 1] μ = some r) :
    ∃ μ', run fs (k + 4) 20 [.ref n, A.e 1, B.e 1] μ = some (.bl true, μ') ∧ Chg [a, m'] μ μ' ∧ NetS (z + 1) N n a m' (upf g u (.v v)) (upl lim v (wmax wu wv)) μ' := by
  obtain ⟨T, M, S, F, hM, hz, hz2⟩ := hS
  have S' := S.setA (T' := setK T (.inl ((u : Int) + 1)) ((Kd.v v).e 1)) am
  have F' : TM 1 (setK T (.inl ((u : Int) + 1)) ((Kd.v v).e 1)) (upf g u (.v v)) := F.set u (.v v)
  have g' : upf g u (.v v) v = none := by rw [upf_off huv]; exact gv
  have e2 := llimit_v (k := k) (w := wu) S' F' hM (by omega) (K := .v v) (.flat (m := 0) (.stop g') (by decide) rfl) hv
  refine ⟨_, e T M _ S F hM (by omega) e2, .trans (.set (by simp)) (.set (by simp)), _, _, S'.setM am, F', ?_, ?_, ?_⟩
  · exact hM.set v _
  · have := @setK_len T (.inl ((u : Int) + 1)) ((Kd.v v).e 1); omega
  · have := @setK_len M (.inl ((v : Int) + 1)) (.str (wmax wu wv).s); omega
theorem n_bind (hS : NetS z N n a m' g lim μ) (am : a ≠ m') (zz : z < 900) (nv : F2.isV = false) (hF : Full (upf g u F2) F2 F2)
    (e : ∀ T M r, Net μ n a m' T M (N : Int) → TM 1 T g → LM M lim → T.length < 1000 → run fs (k + 3) 22 [.ref n, F2.e 1, .str wu.s] (μ.set a (.dic (setK T (.inl ((u : Int) + 1)) (F2.e 1)))) = some r → run fs (k + 4) 20 [.ref n, A.e 1, B.e 1] μ = some r) :
    ∃ μ', run fs (k + 4) 20 [.ref n, A.e 1, B.e 1] μ = some (.bl (lets F2 wu), μ') ∧ Chg [a, m'] μ μ' ∧ NetS (z + 1) N n a m' (upf g u F2) lim μ' := by
  obtain ⟨T, M, S, F, hM, hz, hz2⟩ := hS
  have S' := S.setA (T' := setK T (.inl ((u : Int) + 1)) (F2.e 1)) am
  have F' : TM 1 (setK T (.inl ((u : Int) + 1)) (F2.e 1)) (upf g u F2) := F.set u F2
  have e2 := llimit_n (k := k) (w := wu) S' F' hF nv
  refine ⟨_, e T M _ S F hM (by omega) e2, .set (by simp), _, _, S', F', hM, ?_, by omega⟩
  have := @setK_len T (.inl ((u : Int) + 1)) (F2.e 1); omega
theorem n_flat (hS : NetS z N n a m' g lim μ) (h1 : Full g A F1) (h2 : Full g B F2) (n1 : F1.isV = false) (n2 : F2.isV = false) (nr : F1.isR = false ∨ F2.isR = false) :
    ∃ μ', run fs (k + 4) 20 [.ref n, A.e 1, B.e 1] μ = some (.bl (decide (F1 = F2)), μ') ∧ Chg [a, m'] μ μ' ∧ NetS (z + 1) N n a m' g lim μ' := by
  by_cases ne : F1 = F2
  · subst ne
    obtain ⟨μ', e, r⟩ := n_same (k := k) hS h1 h2
    exact ⟨μ', by simpa using e, r⟩
  · obtain ⟨T, M, S, F, hM, hz, hz2⟩ := hS
    exact ⟨μ, by simpa [ne] using lunify_4 S F h1 h2 n1 n2 nr ne, .refl, T, M, S, F, hM, by omega, by omega⟩
end
/-! both -/
def SolTo (z N : Nat) (f : Nat → Option Kd) (lim : Nat → Option Wd) (k fd : Nat) (xs : List D) (r : Bool) (f' : Nat → Option Kd) (lim' : Nat → Option Wd) : Prop :=
  ∀ n t l μ, SolS z N n t l f lim μ → ∃ μ', run fs k fd (.ref n :: xs) μ = some (.bl r, μ') ∧ Chg [t, l] μ μ' ∧ (r = true → SolS (z + 1) N n t l f' lim' μ')
def NetTo (z N : Nat) (g : Nat → Option Kd) (lim : Nat → Option Wd) (k fd : Nat) (xs : List D) (r : Bool) (g' : Nat → Option Kd) (lim' : Nat → Option Wd) : Prop :=
  ∀ n a m μ, a ≠ m → NetS z N n a m g lim μ → ∃ μ', run fs k fd (.ref n :: xs) μ = some (.bl r, μ') ∧ Chg [a, m] μ μ' ∧ (r = true → NetS (z + 1) N n a m g' lim' μ')
def Both (z N c : Nat) (f g : Nat → Option Kd) (lim : Nat → Option Wd) (KS : List Kd) (k1 fd1 : Nat) (xs1 : List D) (k2 fd2 : Nat) (xs2 : List D) : Prop :=
  ∃ r f' g' lim', (r = true → Inv N (c + 1) f' g' lim' KS) ∧ SolTo z N f lim k1 fd1 xs1 r f' lim' ∧ NetTo z N g lim k2 fd2 xs2 r g' lim'
section
variable {k k' z N c : Nat} {f g : Nat → Option Kd} {lim : Nat → Option Wd} {KS : List Kd} {A B A' B' K1 K2 F1 F2 : Kd} {m1 m2 u : Nat} {wu : Wd}
theorem Lk.lets (h : Lk c f K1 F1) : lets F1 wu = K06.lets K1 wu := by cases h <;> rfl
theorem Lk.isV (h : Lk c f K1 F1) : F1.isV = K1.isV := by cases h <;> rfl
theorem Lk.isR (h : Lk c f K1 F1) : F1.isR = K1.isR := by cases h <;> rfl
/-- what u stands for, once it is bound -/
theorem Lk.fb (I : Inv N c f g lim KS) (h : Lk c f K2 F2) (v2 : ∀ w, K2 = .v w → f w = none) (hu : f u = none) (ne : F2 ≠ .v u) (ne2 : F2 ≠ .rv u) :
    FullB 1 c (upf f u K2) u F2 ∧ FullB 1 c (upf g u F2) u F2 ∧ (K2.isV = false → Full (upf g u F2) F2 F2) := by
  have gr : ∀ {w}, f w = none → w ≠ u → upf g u F2 w = none := fun h1 h2 => by rw [upf_off h2]; exact (I.fg _).mp h1
  cases h with
  | flat e =>
    cases K2 with
    | b z => exact ⟨.flat (.at_root rfl) (by omega) rfl, .flat (.at_root rfl) (by omega) rfl, fun _ => .flat (m := 0) ⟨rfl, rfl⟩ (by decide) rfl⟩
    | v w =>
      have hw : w ≠ u := fun e => ne (by rw [e])
      have r := v2 w rfl
      exact ⟨.flat (.at_root_v hw r) (by omega) rfl, .flat (.at_root_v hw ((I.fg _).mp r)) (by omega) rfl, fun h => by cases h⟩
    | rb _ => cases e
    | rv _ => cases e
  | rb => exact ⟨.rb (.at_root rfl) (by omega), .rb (.at_root rfl) (by omega), fun _ => .rb (m := 0) ⟨rfl, rfl⟩ (by decide)⟩
  | @rv j m w a b =>
    have hw : w ≠ u := fun e => ne2 (by rw [e])
    have r := gr a.root hw
    exact ⟨.rv (.at_root rfl) (by omega) (a.upd hu (by simp [hw])) b, .rv (.at_root rfl) (by omega) (.stop r) (by omega), fun _ => .rv (m := 0) (j := w) ⟨rfl, rfl⟩ (by decide) (.stop r) (by decide)⟩
  | @rvb j m z a b =>
    exact ⟨.rvb (.at_root rfl) (by omega) (a.upd hu (by simp)) b, .rb (.at_root rfl) (by omega), fun _ => .rb (m := 0) ⟨rfl, rfl⟩ (by decide)⟩
/-- u is bound to what is no var: both say the same -/
theorem bound (I : Inv N c f g lim KS) (l2 : Lk c f K2 F2) (nv : K2.isV = false) (p2 : ∀ j, K2 = .rv j → j < N ∧ Plain c f lim j) (huN : u < N) (hu : f u = none) (wu : Wd) (lu : lim u = some wu) :
    F2 ≠ .v u ∧ (F2 = .rv u → K06.lets K2 wu = false) ∧ (F2 ≠ .rv u → K06.lets K2 wu = true → Inv N (c + 1) (upf f u K2) (upf g u F2) lim KS) := by
  have n2 : F2 ≠ .v u := fun e => by have := l2.isV; rw [e, nv] at this; cases this
  refine ⟨n2, fun e => ?_, fun e hl => ?_⟩
  · subst e
    cases l2 with
    | flat e => cases e
    | @rv j m w a b =>
      obtain ⟨_, m', K, _, d, e'⟩ := p2 j rfl
      have := d.fun a
      subst this
      rcases e' with ⟨z, e'⟩ | ⟨w, w0, e', l1, l2⟩
      · cases e'
      · cases e'
        rw [lu] at l1; cases l1
        cases wu <;> first | rfl | (exact absurd rfl l2)
  · obtain ⟨a, b, _⟩ := l2.fb I (fun w e => by rw [e] at nv; cases nv) hu n2 e
    refine I.bind hu a b huN I.dom (fun i w h1 h2 => ⟨w, h1, h2⟩) (fun w0 h1 h2 => ?_) (fun j e => by rw [e] at nv; cases nv) (fun j e => p2 j e)
    rw [lu] at h1; cases h1
    cases K2 with
    | b z => cases l2; exact .inl ⟨z, rfl⟩
    | v _ => cases nv
    | rb _ => cases wu <;> first | (exact absurd rfl h2) | (cases hl)
    | rv _ => cases wu <;> first | (exact absurd rfl h2) | (cases hl)
theorem wmax_any {w w0 : Wd} (h : w0 ≠ .any ∨ w ≠ .any) : wmax w w0 ≠ .any := by
  cases w <;> cases w0 <;> first | decide | (simp at h)
theorem core (I : Inv N c f g lim KS) (zz : z < 900) (h1 : Sh f A m1 K1) (b1 : m1 < 1000) (h2 : Sh f B m2 K2) (b2 : m2 < 1000) (l1 : Lk c f K1 F1) (l2 : Lk c f K2 F2) (G1 : Full g A' F1) (G2 : Full g B' F2)
    (v1 : ∀ u, K1 = .v u → u < N ∧ f u = none) (v2 : ∀ u, K2 = .v u → u < N ∧ f u = none) (p1 : ∀ j, K1 = .rv j → j < N ∧ Plain c f lim j) (p2 : ∀ j, K2 = .rv j → j < N ∧ Plain c f lim j) (nr : K1.isR = false ∨ K2.isR = false) :
    Both z N c f g lim KS (k + 5) 10 [A.e 0, B.e 0] (k' + 4) 20 [A'.e 1, B'.e 1] := by
  have c1 : K1.isV = false ∨ ∃ u, K1 = .v u := by cases K1 <;> simp [Kd.isV]
  have c2 : K2.isV = false ∨ ∃ u, K2 = .v u := by cases K2 <;> simp [Kd.isV]
  rcases c1 with n1 | ⟨u, rfl⟩
  · rcases c2 with n2 | ⟨u, rfl⟩
    · -- neither is open
      have e : decide (K1 = K2) = decide (F1 = F2) := by
        have k1 := l1.isR
        have k2 := l2.isR
        have q1 : K1.isR = false → F1 = K1 := fun h => by cases l1 <;> first | rfl | (cases h)
        have q2 : K2.isR = false → F2 = K2 := fun h => by cases l2 <;> first | rfl | (cases h)
        cases r1 : K1.isR with
        | false =>
          cases r2 : K2.isR with
          | false => rw [q1 r1, q2 r2]
          | true =>
            have a1 : K1 ≠ K2 := fun z => by rw [z, r2] at r1; cases r1
            have a2 : F1 ≠ F2 := fun z => by rw [z, k2, r2, r1] at k1; cases k1
            simp [a1, a2]
        | true =>
          cases r2 : K2.isR with
          | false =>
            have a1 : K1 ≠ K2 := fun z => by rw [z, r2] at r1; cases r1
            have a2 : F1 ≠ F2 := fun z => by rw [z, k2, r2, r1] at k1; cases k1
            simp [a1, a2]
          | true => rw [r1, r2] at nr; simp at nr
      refine ⟨decide (K1 = K2), f, g, lim, fun _ => I.mono (by omega), fun n t l μ hS => ?_, fun n a m μ am hS => ?_⟩
      · obtain ⟨μ', x, y, w⟩ := s_flat (k := k) hS h1 b1 h2 b2 n1 n2 nr
        exact ⟨μ', x, y, fun _ => w⟩
      · obtain ⟨μ', x, y, w⟩ := n_flat (k := k') hS G1 G2 (by rw [l1.isV]; exact n1) (by rw [l2.isV]; exact n2) (by rw [l1.isR, l2.isR]; exact nr)
        exact ⟨μ', by rw [e]; exact x, y, fun _ => w⟩
    · -- the second alone is open
      have F2e : F2 = .v u := by cases l2; rfl
      subst F2e
      obtain ⟨huN, hu⟩ := v2 u rfl
      obtain ⟨wu, lu⟩ := (I.dom u).mpr huN
      have nF : F1.isV = false := by rw [l1.isV]; exact n1
      obtain ⟨q1, q2, q3⟩ := bound I l1 n1 p1 huN hu wu lu
      by_cases e : F1 = .rv u
      · refine ⟨false, f, g, lim, fun h => (nomatch h), fun n t l μ hS => ?_, fun n a m μ am hS => ?_⟩
        · obtain ⟨μ', x, y, w⟩ := s_bind (k := k) (A := A) (B := B) hS (by omega) n1 lu (fun T L r S F e => unify_2 S F h1 b1 h2 b2 n1 e)
          rw [q2 e] at x
          exact ⟨μ', x, y, fun h => (nomatch h)⟩
        · obtain ⟨T, M, S, F, hM, hz, hz2⟩ := hS
          rw [e] at G1
          exact ⟨μ, lunify_2s S F G1 G2, .refl, fun h => (nomatch h)⟩
      · obtain ⟨_, _, hF⟩ := l1.fb I (fun w e => by rw [e] at n1; cases n1) hu q1 e
        refine ⟨K06.lets K1 wu, upf f u K1, upf g u F1, lim, q3 e, fun n t l μ hS => ?_, fun n a m μ am hS => ?_⟩
        · obtain ⟨μ', x, y, w⟩ := s_bind (k := k) (A := A) (B := B) hS (by omega) n1 lu (fun T L r S F e => unify_2 S F h1 b1 h2 b2 n1 e)
          exact ⟨μ', x, y, fun _ => w⟩
        · obtain ⟨μ', x, y, w⟩ := n_bind (k := k') (A := A') (B := B') (u := u) (wu := wu) hS am zz nF (hF n1) (fun T M r S F hM hT e' => lunify_2 S F hM hT G1 G2 nF lu e e')
          rw [l1.lets] at x
          exact ⟨μ', x, y, fun _ => w⟩
  · -- the first is open
    have F1e : F1 = .v u := by cases l1; rfl
    subst F1e
    obtain ⟨huN, hu⟩ := v1 u rfl
    obtain ⟨wu, lu⟩ := (I.dom u).mpr huN
    rcases c2 with n2 | ⟨w, rfl⟩
    · have nF : F2.isV = false := by rw [l2.isV]; exact n2
      obtain ⟨q1, q2, q3⟩ := bound I l2 n2 p2 huN hu wu lu
      by_cases e : F2 = .rv u
      · refine ⟨false, f, g, lim, fun h => (nomatch h), fun n t l μ hS => ?_, fun n a m μ am hS => ?_⟩
        · obtain ⟨μ', x, y, w⟩ := s_bind (k := k) (A := A) (B := B) hS (by omega) n2 lu (fun T L r S F e => unify_1 S F h1 b1 h2 b2 e)
          rw [q2 e] at x
          exact ⟨μ', x, y, fun h => (nomatch h)⟩
        · obtain ⟨T, M, S, F, hM, hz, hz2⟩ := hS
          rw [e] at G2
          exact ⟨μ, lunify_1s S F G1 G2, .refl, fun h => (nomatch h)⟩
      · obtain ⟨_, _, hF⟩ := l2.fb I (fun w e => by rw [e] at n2; cases n2) hu q1 e
        refine ⟨K06.lets K2 wu, upf f u K2, upf g u F2, lim, q3 e, fun n t l μ hS => ?_, fun n a m μ am hS => ?_⟩
        · obtain ⟨μ', x, y, w⟩ := s_bind (k := k) (A := A) (B := B) hS (by omega) n2 lu (fun T L r S F e => unify_1 S F h1 b1 h2 b2 e)
          exact ⟨μ', x, y, fun _ => w⟩
        · obtain ⟨μ', x, y, w⟩ := n_bind (k := k') (A := A') (B := B') (u := u) (wu := wu) hS am zz nF (hF n2) (fun T M r S F hM hT e' => lunify_1 S F hM hT G1 G2 q1 lu e e')
          rw [l2.lets] at x
          exact ⟨μ', x, y, fun _ => w⟩
    · have F2e : F2 = .v w := by cases l2; rfl
      subst F2e
      obtain ⟨hwN, hw⟩ := v2 w rfl
      obtain ⟨ww, lw⟩ := (I.dom w).mpr hwN
      by_cases e : w = u
      · subst e
        refine ⟨true, f, g, lim, fun _ => I.mono (by omega), fun n t l μ hS => ?_, fun n a m μ am hS => ?_⟩
        · obtain ⟨μ', x, y, w⟩ := s_same (k := k) hS h1 b1 h2 b2 hu lu
          exact ⟨μ', x, y, fun _ => w⟩
        · obtain ⟨μ', x, y, w⟩ := n_same (k := k') hS G1 G2
          exact ⟨μ', x, y, fun _ => w⟩
      · obtain ⟨a1, a2, _⟩ := l2.fb I (fun x h => by cases h; exact hw) hu (fun h => e (by cases h; rfl)) (by simp)
        refine ⟨true, upf f u (.v w), upf g u (.v w), upl lim w (wmax wu ww), fun _ => ?_, fun n t l μ hS => ?_, fun n a m μ am hS => ?_⟩
        · refine I.bind hu a1 a2 huN (fun i => ?_) (fun i x h1 h2 => ?_) (fun w0 h1 h2 => .inr ⟨w, wmax wu ww, rfl, by unfold upl; simp, ?_⟩) (fun j h => by cases h; exact hwN) (fun j h => by cases h)
          · exact (I.limit lw (w1 := wmax wu ww) (fun h => wmax_any (.inl h))).dom i
          · unfold upl
            by_cases hi : i = w
            · subst hi
              rw [lw] at h1; cases h1
              exact ⟨wmax wu ww, by simp, wmax_any (.inl h2)⟩
            · exact ⟨x, by rw [if_neg hi]; exact h1, h2⟩
          · rw [lu] at h1; cases h1
            exact wmax_any (.inr h2)
        · obtain ⟨μ', x, y, w⟩ := s_var (k := k) hS (by omega) h1 b1 h2 b2 hw e lu lw
          exact ⟨μ', x, y, fun _ => w⟩
        · obtain ⟨μ', x, y, w⟩ := n_var (k := k') (A := A') (B := B') (u := u) (wu := wu) hS am zz e ((I.fg _).mp hw) lw (fun T M r S F hM hT e' => lunify_1 S F hM hT G1 G2 (fun h => e (by cases h; rfl)) lu (by simp) e')
          exact ⟨μ', x, y, fun _ => w⟩
/-- whatever is unified: both say the same -/
theorem uni (I : Inv N c f g lim KS) (cc : c < 400) (zz : z < 900) (hA : Ent KS A) (hB : Ent KS B) : Both z N c f g lim KS (k + 6) 10 [A.e 0, B.e 0] (k' + 5) 20 [A.e 1, B.e 1] := by
  obtain ⟨m1, K1, F1, b1, h1, l1, G1, _, v1, p1⟩ := I.ent (by omega) hA
  obtain ⟨m2, K2, F2, b2, h2, l2, G2, _, v2, p2⟩ := I.ent (by omega) hB
  by_cases nr : K1.isR = false ∨ K2.isR = false
  · exact core (k := k + 1) (k' := k' + 1) I zz h1 (by omega) h2 (by omega) l1 l2 G1 G2 v1 v2 p1 p2 nr
  · -- two rows: what is in them
    have inner : ∀ {K F : Kd}, Lk c f K F → K.isR = true → (∀ j, K = .rv j → j < N ∧ Plain c f lim j) → ∃ A0 m K0 A', K.e 0 = row_ (A0.e 0) ∧ F.e 1 = row_ (Kd.e 1 A') ∧ F = A'.row ∧ m < 1000 ∧ Sh f A0 m K0 ∧ K0 = A' ∧ K0.isR = false ∧ Full g A' A' ∧ (∀ u, K0 = .v u → u < N ∧ f u = none) := by
      intro K F lk hr p
      cases lk with
      | flat e => rw [e] at hr; cases hr
      | @rb z => exact ⟨.b z, 0, .b z, .b z, rfl, rfl, rfl, by decide, ⟨rfl, rfl⟩, rfl, rfl, .flat (m := 0) ⟨rfl, rfl⟩ (by decide) rfl, fun u h => by cases h⟩
      | @rv j m w a b => exact ⟨.v j, m, .v w, .v w, rfl, rfl, rfl, by omega, a, rfl, rfl, .flat (m := 0) (.stop ((I.fg _).mp a.root)) (by decide) rfl, fun u h => by cases h; exact ⟨I.rt a (p j rfl).1, a.root⟩⟩
      | @rvb j m z a b => exact ⟨.v j, m, .b z, .b z, rfl, rfl, rfl, by omega, a, rfl, rfl, .flat (m := 0) ⟨rfl, rfl⟩ (by decide) rfl, fun u h => by cases h⟩
    have r1 : K1.isR = true := by cases h : K1.isR <;> simp_all
    have r2 : K2.isR = true := by cases h : K2.isR <;> simp_all
    have n1 : K1.isV = false := by cases K1 <;> first | rfl | (cases r1)
    have n2 : K2.isV = false := by cases K2 <;> first | rfl | (cases r2)
    obtain ⟨A0, mm1, K0, A1, e1, e2, e3, e4, e5, e6, e7, e8, e9⟩ := inner l1 r1 p1
    obtain ⟨B0, mm2, L0, B1, d1, d2, d3, d4, d5, d6, d7, d8, d9⟩ := inner l2 r2 p2
    subst e6; subst d6
    have sol : ∀ {r f' lim'}, SolTo z N f lim (k + 5) 10 [A0.e 0, B0.e 0] r f' lim' → SolTo z N f lim (k + 6) 10 [A.e 0, B.e 0] r f' lim' := by
      intro r f' lim' q2 n t l μ hS
      obtain ⟨T, L, S, F, _, _⟩ := id hS
      obtain ⟨μ', x, y, w⟩ := q2 n t l μ hS
      exact ⟨μ', unify_3 (k := k + 1) S F h1 (by omega) h2 (by omega) n1 n2 e1 d1 x, y, w⟩
    by_cases ne : F1 = F2
    · -- the same rows
      subst ne
      have ab : K0 = L0 := by
        rw [e3] at d3
        cases K0 <;> cases L0 <;> first | rfl | (cases e7; done) | (cases d7; done) | (cases d3; rfl) | (cases d3; done)
      subst ab
      have q2 : SolTo z N f lim (k + 5) 10 [A0.e 0, B0.e 0] true f lim := by
        intro n t l μ hS
        cases hK : K0.isV with
        | true =>
          obtain ⟨u, rfl⟩ : ∃ u, K0 = .v u := by cases K0 <;> simp [Kd.isV] at hK ⊢
          obtain ⟨huN, hu⟩ := e9 u rfl
          obtain ⟨wu, lu⟩ := (I.dom u).mpr huN
          obtain ⟨μ', x, y, w⟩ := s_same (k := k) hS e5 e4 d5 d4 hu lu
          exact ⟨μ', x, y, fun _ => w⟩
        | false =>
          obtain ⟨μ', x, y, w⟩ := s_flat (k := k) hS e5 e4 d5 d4 hK hK (.inl e7)
          exact ⟨μ', by simpa using x, y, fun _ => w⟩
      refine ⟨true, f, g, lim, fun _ => I.mono (by omega), sol q2, fun n a m μ am hS => ?_⟩
      obtain ⟨μ', x, y, w⟩ := n_same (k := k' + 1) hS G1 G2
      exact ⟨μ', x, y, fun _ => w⟩
    · obtain ⟨r, f', g', lim', q1, q2, q3⟩ := core (k := k) (k' := k') I zz e5 e4 d5 d4 (.flat e7) (.flat d7) e8 d8 e9 d9 (fun j h => by rw [h] at e7; cases e7) (fun j h => by rw [h] at d7; cases d7) (.inl e7)
      refine ⟨r, f', g', lim', q1, sol q2, fun n a m μ am hS => ?_⟩
      obtain ⟨T, M, S, F, hM, hz, hz2⟩ := id hS
      obtain ⟨μ', x, y, w⟩ := q3 n a m μ am hS
      exact ⟨μ', lunify_3 (k := k' + 1) S F G1 G2 (by rw [l1.isV]; exact n1) (by rw [l2.isV]; exact n2) e2 d2 ne x, y, w⟩
/-- a limit: both say the same -/
theorem lmt (I : Inv N c f g lim KS) (cc : c < 400) (zz : z < 900) (hA : Ent KS A) (w : Wd) : Both z N c f g lim KS (k + 3) 8 [A.e 0, .str w.s] (k' + 3) 22 [A.e 1, .str w.s] := by
  obtain ⟨m1, K1, F1, b1, h1, l1, G1, _, v1, p1⟩ := I.ent (by omega) hA
  have c1 : K1.isV = false ∨ ∃ u, K1 = .v u := by cases K1 <;> simp [Kd.isV]
  rcases c1 with n1 | ⟨u, rfl⟩
  · refine ⟨K06.lets K1 w, f, g, lim, fun _ => I.mono (by omega), fun n t l μ hS => ?_, fun n a m μ am hS => ?_⟩
    · obtain ⟨T, L, S, F, hL, hz, hn⟩ := hS
      exact ⟨μ, limit_n S F h1 (by omega) n1, .refl, fun _ => ⟨T, L, S, F, hL, by omega, hn⟩⟩
    · obtain ⟨T, M, S, F, hM, hz, hz2⟩ := hS
      rw [← l1.lets]
      exact ⟨μ, llimit_n S F G1 (by rw [l1.isV]; exact n1), .refl, fun _ => ⟨T, M, S, F, hM, by omega, by omega⟩⟩
  · have F1e : F1 = .v u := by cases l1; rfl
    subst F1e
    obtain ⟨huN, hu⟩ := v1 u rfl
    obtain ⟨w0, lu⟩ := (I.dom u).mpr huN
    refine ⟨true, f, g, upl lim u (wmax w w0), fun _ => (I.limit lu (fun h => wmax_any (.inl h))).mono (by omega), fun n t l μ hS => ?_, fun n a m μ am hS => ?_⟩
    · obtain ⟨T, L, S, F, hL, hz, hn⟩ := hS
      exact ⟨_, limit_v S F hL h1 (by omega) lu, .set (by simp), fun _ => ⟨T, _, S.setL _, F, hL.set lu _, by omega, by simpa using hn⟩⟩
    · obtain ⟨T, M, S, F, hM, hz, hz2⟩ := hS
      refine ⟨_, llimit_v S F hM (by omega) G1 lu, .set (by simp), fun _ => ⟨T, _, S.setM am, F, hM.set u _, by omega, ?_⟩⟩
      have := @setK_len M (.inl ((u : Int) + 1)) (.str (wmax w w0).s); omega
/-- a row of a kind: both say the same; and then it may be one of the kinds -/
theorem rowed (I : Inv N c f g lim KS) (cc : c < 400) (zz : z < 900) (hA : A ∈ KS) : ∃ r f' g' lim', (r = true → ∃ A2 : Kd, (∀ o, row_ (A.e o) = A2.e o) ∧ Inv N (c + 1) f' g' lim' (KS ++ [A2])) ∧
    (∀ n t l μ, SolS z N n t l f lim μ → ∃ μ', run fs (k + 4) 7 [.ref n, A.e 0] μ = some (if r then row_ (A.e 0) else .non, μ') ∧ Chg [t, l] μ μ' ∧ (r = true → SolS (z + 1) N n t l f' lim' μ')) ∧
    NetTo z N g lim (k' + 3) 22 [A.e 1, .str Wd.plain.s] r g' lim' := by
  obtain ⟨m1, K1, F1, b1, h1, l1, G1, _, v1, p1⟩ := I.ent (by omega) (.inl hA)
  have kind : ∀ {r}, K06.lets K1 .plain = r ∨ K1.isV = true → r = true → ∃ i, i < N ∧ A = .v i ∧ Res f i m1 K1 := by
    intro r h hr
    obtain ⟨i, hi, rfl | rfl⟩ := I.ks A hA
    · exact ⟨i, hi, rfl, h1⟩
    · obtain ⟨e, _⟩ := h1
      subst e
      rcases h with h | h
      · rw [hr] at h; cases h
      · cases h
  have c1 : K1.isV = false ∨ ∃ u, K1 = .v u := by cases K1 <;> simp [Kd.isV]
  rcases c1 with n1 | ⟨u, rfl⟩
  · refine ⟨K06.lets K1 .plain, f, g, lim, fun hr => ?_, fun n t l μ hS => ?_, fun n a m μ am hS => ?_⟩
    · obtain ⟨i, hi, rfl, r⟩ := kind (.inl rfl) hr
      refine ⟨.rv i, fun o => rfl, (I.mono (by omega)).row hi ⟨m1, K1, by omega, r, .inl ?_⟩⟩
      cases K1 <;> first | exact ⟨_, rfl⟩ | (cases n1; done) | (cases hr; done)
    · obtain ⟨T, L, S, F, hL, hz, hn⟩ := hS
      exact ⟨μ, row_of_n S F h1 (by omega) n1, .refl, fun _ => ⟨T, L, S, F, hL, by omega, hn⟩⟩
    · obtain ⟨T, M, S, F, hM, hz, hz2⟩ := hS
      rw [← l1.lets]
      exact ⟨μ, llimit_n S F G1 (by rw [l1.isV]; exact n1), .refl, fun _ => ⟨T, M, S, F, hM, by omega, by omega⟩⟩
  · have F1e : F1 = .v u := by cases l1; rfl
    subst F1e
    obtain ⟨huN, hu⟩ := v1 u rfl
    obtain ⟨w0, lu⟩ := (I.dom u).mpr huN
    obtain ⟨i, hi, rfl, r⟩ := kind (r := true) (.inr rfl) rfl
    refine ⟨true, f, g, upl lim u (wmax .plain w0), fun _ => ⟨.rv i, fun o => rfl, ((I.limit lu (fun h => wmax_any (.inl h))).mono (by omega)).row hi ⟨m1, .v u, by omega, r, .inr ⟨u, wmax .plain w0, rfl, by unfold upl; simp, wmax_any (.inr (by decide))⟩⟩⟩, fun n t l μ hS => ?_, fun n a m μ am hS => ?_⟩
    · obtain ⟨T, L, S, F, hL, hz, hn⟩ := hS
      exact ⟨_, row_of_v S F hL h1 (by omega) lu, .set (by simp), fun _ => ⟨T, _, S.setL _, F, hL.set lu _, by omega, by simpa using hn⟩⟩
    · obtain ⟨T, M, S, F, hM, hz, hz2⟩ := hS
      refine ⟨_, llimit_v S F hM (by omega) G1 lu, .set (by simp), fun _ => ⟨T, _, S.setM am, F, hM.set u _, by omega, ?_⟩⟩
      have := @setK_len M (.inl ((u : Int) + 1)) (.str (wmax .plain w0).s); omega
/-- a new kind -/
theorem LL.app {L : List D} (h : LL L lim) (hn : L.length = N) (w : Wd) : LL (L ++ [.str w.s]) (upl lim N w) := fun i => by
  unfold upl
  by_cases e : i = N
  · subst e; rw [if_pos rfl, ← hn]; simp
  · rw [if_neg e, ← h i]
    by_cases hi : i < N
    · rw [List.getElem?_append_left (by omega)]
    · rw [List.getElem?_eq_none (by simp; omega), List.getElem?_eq_none (by omega)]
theorem anewS (hN : N < 900) (w : Wd) : ∀ n t l μ, SolS z N n t l f lim μ → ∃ μ', run fs (k + 1) 5 [.ref n, .str w.s] μ = some ((Kd.v N).e 0, μ') ∧ Chg [t, l] μ μ' ∧ SolS (z + 1) (N + 1) n t l f (upl lim N w) μ' := by
  intro n t l μ ⟨T, L, S, F, hL, hz, hn⟩
  have e := fresh (k := k) (w := w) S (by omega)
  rw [hn] at e
  exact ⟨_, e, .set (by simp), T, _, S.setL _, F, hL.app hn w, by omega, by simp [hn]⟩
theorem anewN (zz : z < 900) (w : Wd) : ∀ n a m μ, a ≠ m → NetS z N n a m g lim μ → ∃ μ', run fs (k + 1) 23 [.ref n, .str w.s] μ = some ((Kd.v N).e 1, μ') ∧ Chg [n, a, m] μ μ' ∧ NetS (z + 1) (N + 1) n a m g (upl lim N w) μ' := by
  intro n a m μ am ⟨T, M, S, F, hM, hz, hz2⟩
  have e := lfresh (k := k) (w := w) S (by omega)
  obtain ⟨ne1, ne2⟩ := S.ne
  refine ⟨_, e, .trans (.set (by simp)) (.set (by simp)), T, setK M (.inl ((N : Int) + 1)) (.str w.s), ⟨?_, ?_, ?_⟩, F, ?_, by omega, ?_⟩
  · rw [set_off ne2, set_at S.n]; rfl
  · rw [set_off (Ne.symm am), set_off (Ne.symm ne1)]; exact S.a
  · exact set_at (c := .dic M) (by rw [set_off (Ne.symm ne2)]; exact S.m)
  · exact hM.set N w
  · have := @setK_len M (.inl ((N : Int) + 1)) (.str w.s); omega
end
end FH.K06
end
section
namespace FH.K06
open PySem PySem.Spec PyProof.Rows L2
def sWay : IS := (.set 8 (.cond (.prim (.cmp .NotEq) (.cons (.var 5) (.cons (.frz (.disp .nil)) .nil))) (.call "_law_take" 16 (.cons (.var 1) (.cons (.lit (.int 6)) .nil))) (.lit (.int 0))))
def sA : ISs := (.cons (.set 9 (.call "_law_some" 17 (.cons (.var 1) (.cons (.frz (.disp (.cons (.lit (.str "any")) (.cons (.lit (.str "any")) (.cons (.lit (.str "plain")) (.cons (.lit (.str "ordered")) .nil)))))) .nil)))) (.cons (.app (.var 5) (.call "_law_fresh" 23 (.cons (.var 4) (.cons (.var 9) .nil)))) (.cons (.app (.var 6) (.mcall 0 "fresh" 5 (.var 3) (.cons (.var 9) .nil))) .nil)))
def sB : ISs := (.cons (.set 10 (.call "_law_take" 16 (.cons (.var 1) (.cons (.prim .len (.cons (.var 5) .nil)) .nil)))) (.cons (.set 11 (.call "_law_limit" 22 (.cons (.var 4) (.cons (.prim .ix (.cons (.var 5) (.cons (.var 10) .nil))) (.cons (.lit (.str "plain")) .nil))))) (.cons (.set 12 (.mcall 0 "row_of" 7 (.var 3) (.cons (.prim .ix (.cons (.var 6) (.cons (.var 10) .nil))) .nil))) (.cons (.ifs (.prim (.cmp .Eq) (.cons (.prim (.cmp .Is) (.cons (.var 12) (.cons (.lit .non) .nil))) (.cons (.var 11) .nil))) (.cons (.ret (.lit (.bl false))) .nil) .nil) (.cons (.ifs (.nott (.var 11)) (.cons .brk .nil) .nil) (.cons (.app (.var 5) (.tup (.cons (.lit (.str "row")) (.cons (.prim .ix (.cons (.var 5) (.cons (.var 10) .nil))) .nil)))) (.cons (.app (.var 6) (.var 12)) .nil)))))))
def sC : ISs := (.cons (.par 10 13 (.v (.call "_law_take" 16 (.cons (.var 1) (.cons (.prim .len (.cons (.var 5) .nil)) .nil)))) (.v (.call "_law_take" 16 (.cons (.var 1) (.cons (.prim .len (.cons (.var 5) .nil)) .nil))))) (.cons (.set 14 (.call "_law_some" 17 (.cons (.var 1) (.cons (.frz (.disp (.cons (.lit .non) (.cons (.lit .non) (.cons (.lit (.str "number")) (.cons (.lit (.str "text")) (.cons (.lit (.str "truth")) .nil))))))) .nil)))) (.cons (.unp (.tp (.cons (.nm 15) (.cons (.nm 16) .nil))) (.cond (.prim (.cmp .Is) (.cons (.var 14) (.cons (.lit .non) .nil))) (.tup (.cons (.prim .ix (.cons (.var 5) (.cons (.var 13) .nil))) (.cons (.prim .ix (.cons (.var 6) (.cons (.var 13) .nil))) .nil))) (.tup (.cons (.var 14) (.cons (.var 14) .nil))))) (.cons (.set 11 (.call "_law_unify" 20 (.cons (.var 4) (.cons (.prim .ix (.cons (.var 5) (.cons (.var 10) .nil))) (.cons (.var 15) .nil))))) (.cons (.ifs (.nott (.call "_law_alike" 18 (.cons (.mcall 0 "unify" 10 (.var 3) (.cons (.prim .ix (.cons (.var 6) (.cons (.var 10) .nil))) (.cons (.var 16) .nil))) (.cons (.var 11) .nil)))) (.cons (.ret (.lit (.bl false))) .nil) .nil) (.cons (.ifs (.nott (.var 11)) (.cons .brk .nil) .nil) .nil))))))
def sD : ISs := (.cons (.par 10 9 (.v (.call "_law_take" 16 (.cons (.var 1) (.cons (.prim .len (.cons (.var 5) .nil)) .nil)))) (.v (.call "_law_some" 17 (.cons (.var 1) (.cons (.frz (.disp (.cons (.lit (.str "any")) (.cons (.lit (.str "plain")) (.cons (.lit (.str "ordered")) .nil))))) .nil))))) (.cons (.set 11 (.call "_law_limit" 22 (.cons (.var 4) (.cons (.prim .ix (.cons (.var 5) (.cons (.var 10) .nil))) (.cons (.var 9) .nil))))) (.cons (.ifs (.nott (.call "_law_alike" 18 (.cons (.mcall 0 "limit" 8 (.var 3) (.cons (.prim .ix (.cons (.var 6) (.cons (.var 10) .nil))) (.cons (.var 9) .nil))) (.cons (.var 11) .nil)))) (.cons (.ret (.lit (.bl false))) .nil) .nil) (.cons (.ifs (.nott (.var 11)) (.cons .brk .nil) .nil) .nil))))
def sIf : IS := (.ifs (.prim (.cmp .Lt) (.cons (.var 8) (.cons (.lit (.int 2)) .nil))) sA (.cons (.ifs (.prim (.cmp .Eq) (.cons (.var 8) (.cons (.lit (.int 2)) .nil))) sB (.cons (.ifs (.prim (.cmp .Lt) (.cons (.var 8) (.cons (.lit (.int 5)) .nil))) sC sD) .nil)) .nil))
def sT2 : IS := (.set 17 (.mcall 0 "twin" 12 (.var 3) .nil))
def sT3 : IS := (.par 18 19 (.v (.frz (.comp (.nm 22) [("kind", 22)] (.cel (.var 6)) .no (.mcall 0 "led" 11 (.var 3) (.cons (.var 22) .nil))))) (.v (.frz (.comp (.nm 22) [("kind", 22)] (.cel (.var 5)) .no (.call "_law_found" 19 (.cons (.prim .ix (.cons (.var 4) (.cons (.lit (.int 0)) .nil))) (.cons (.var 22) .nil)))))))
def sT4 : IS := (.ifs (.nott (.call "_law_alike" 18 (.cons (.frz (.disp (.cons (.call "numbered" 13 (.cons (.prim .tuple (.cons (.var 18) .nil)) .nil)) (.cons (.frz (.comp (.nm 22) [("kind", 22)] (.cel (.var 6)) .no (.mcall 0 "led" 11 (.var 17) (.cons (.var 22) .nil)))) .nil)))) (.cons (.frz (.disp (.cons (.call "_law_numbered" 25 (.cons (.var 19) .nil)) (.cons (.var 18) .nil)))) .nil)))) (.cons (.ret (.lit (.bl false))) .nil) .nil)
def sT5 : IS := (.ifs (.prim (.cmp .NotEq) (.cons (.var 5) (.cons (.frz (.disp .nil)) .nil))) (.cons (.expr (.mcall 0 "unify" 10 (.var 17) (.cons (.prim .ix (.cons (.var 6) (.cons (.lit (.int 0)) .nil))) (.cons (.lit (.str "truth")) .nil)))) (.cons (.ifs (.prim (.cmp .NotEq) (.cons (.frz (.comp (.nm 22) [("kind", 22)] (.cel (.var 6)) .no (.mcall 0 "led" 11 (.var 3) (.cons (.var 22) .nil)))) (.cons (.var 18) .nil))) (.cons (.ret (.lit (.bl false))) .nil) .nil) .nil)) .nil)
def sStep : ISs := (.cons sWay (.cons sIf (.cons sT2 (.cons sT3 (.cons sT4 (.cons sT5 .nil))))))
def lNew : IS := (.unp (.tp (.cons (.nm 3) (.cons (.nm 4) (.cons (.nm 5) (.cons (.nm 6) .nil))))) (.tup (.cons (.make "Solver" 0 4 .nil) (.cons (.cell (.disp (.cons .celld (.cons .celld (.cons (.lit (.int 0)) .nil))))) (.cons (.cell (.disp .nil)) (.cons (.cell (.disp .nil)) .nil))))))
def lStep : IS := (.fors (.nm 7) (.range1 (.lit (.int 14))) sStep)
def wLap : IS := (.fors (.nm 2) (.range1 (.lit (.int 8))) (.cons lNew (.cons lStep .nil)))
def thB : ISs := (.cons (.ifs (.nott (.call "_law_alike" 18 (.cons (.call "is_kind" 1 (.cons (.var 20) .nil)) (.cons (.call "_law_is_kind" 24 (.cons (.var 20) .nil)) .nil)))) (.cons (.ret (.lit (.bl false))) .nil) .nil) (.cons (.ifs (.call "_law_is_kind" 24 (.cons (.var 20) .nil)) (.cons (.set 21 (.frz (.disp (.cons (.lit (.bl true)) (.cons (.nott (.prim .isi (.cons (.var 20) (.cons (.glob "tuple" (.ty "tuple")) .nil)))) (.cons (.prim (.cmp .In) (.cons (.var 20) (.cons (.tup (.cons (.lit (.str "number")) (.cons (.lit (.str "text")) .nil))) .nil))) .nil)))))) (.cons (.ifs (.nott (.call "_law_alike" 18 (.cons (.frz (.comp (.nm 23) [("word", 23)] (.it (.tup (.cons (.lit (.str "any")) (.cons (.lit (.str "plain")) (.cons (.lit (.str "ordered")) .nil))))) .no (.call "is_let" 2 (.cons (.var 20) (.cons (.var 23) .nil))))) (.cons (.var 21) .nil)))) (.cons (.ret (.lit (.bl false))) .nil) .nil) .nil)) .nil) .nil))
def wTh : IS := (.fors (.nm 20) (.it (.frz (.disp (.cons (.lit .non) (.cons (.lit (.str "number")) (.cons (.lit (.str "text")) (.cons (.lit (.str "truth")) (.cons (.lit (.str "row")) (.cons (.tup (.cons (.lit (.str "row")) (.cons (.lit (.str "number")) .nil))) (.cons (.tup (.cons (.lit (.str "row")) (.cons (.tup (.cons (.lit (.str "row")) (.cons (.lit (.str "text")) .nil))) .nil))) (.cons (.tup (.cons (.lit (.str "some")) (.cons (.lit (.int 0)) .nil))) (.cons (.tup (.cons (.lit (.str "row")) (.cons (.tup (.cons (.lit (.str "some")) (.cons (.lit (.int 0)) .nil))) .nil))) (.cons (.tup (.cons (.lit (.str "row")) .nil)) (.cons (.frz (.disp (.cons (.lit (.str "row")) (.cons (.lit (.str "number")) .nil)))) (.cons (.lit (.int 1)) (.cons (.tup .nil) .nil)))))))))))))))) thB)
def wBag : IS := (.set 1 (.call "_law_bag" 15 (.cons (.var 0) .nil)))
def wRet : IS := (.ret (.lit (.bl true)))
theorem b27_eq : b27 = (.cons wBag (.cons wLap (.cons wTh (.cons wRet .nil)))) := rfl
def Γ0 : Env2 := ⟨run fs 59, (runP fs 59).2⟩
theorem Γf : Γ0.fns = run fs 59 := rfl
theorem Γi : Γ0.inits = run fs 58 := rfl
theorem seq {Γ : Env2} {s : IS} {ss : ISs} {ρ ρ' : Slots} {μ μ' : Store} (h : evS Γ s ρ μ = some (.nx, ρ', μ')) : evSs Γ (.cons s ss) ρ μ = evSs Γ ss ρ' μ' := by simp only [evSs, h, Option.bind_some]
theorem seqb {Γ : Env2} {s : IS} {ss : ISs} {ρ ρ' : Slots} {μ μ' : Store} (h : evS Γ s ρ μ = some (.brk, ρ', μ')) : evSs Γ (.cons s ss) ρ μ = some (.brk, ρ', μ') := by simp only [evSs, h, Option.bind_some]
theorem slot_on {ρ : Slots} {i : Nat} {d : D} (h : i < ρ.length) : slotD (ρ.set i (.val d)) i = some d := by unfold slotD; simp [h]
theorem slot_off {ρ : Slots} {i j : Nat} {s : Slot} (h : i ≠ j) : slotD (ρ.set i s) j = slotD ρ j := by unfold slotD; rw [List.getElem?_set_ne h]
theorem app_ev {Γ : Env2} {o e : IE} {ρ : Slots} {μ μ' : Store} {n : Nat} {ds ds' : List D} {v : D} (ho : evE Γ o ρ μ = some (.ref n, μ)) (h1 : μ[n]? = some (.lst ds)) (he : evE Γ e ρ μ = some (v, μ')) (h2 : μ'[n]? = some (.lst ds')) (hl : ds'.length ≤ 1000) :
    evS Γ (.app o e) ρ μ = some (.nx, ρ, μ'.set n (.lst (ds' ++ [v]))) := by
  simp only [evS, ho, Option.bind_some, lst_at_ h1, he, lst_at_ h2, lt_size hl, if_true]
theorem set_ev {Γ : Env2} {e : IE} {ρ : Slots} {μ μ' : Store} {i : Nat} {v : D} (he : evE Γ e ρ μ = some (v, μ')) (hi : i < ρ.length) : evS Γ (.set i e) ρ μ = some (.nx, ρ.set i (.val v), μ') := by
  simp only [evS, he, Option.bind_some, setS_c hi, Option.map_some]
theorem var_ev {Γ : Env2} {ρ : Slots} {μ : Store} {i : Nat} {d : D} (h : slotD ρ i = some d) : evE Γ (.var i) ρ μ = some (d, μ) := by simp only [evE, h, Option.map_some]
structure Rg (p : Nat) (ρ : Slots) : Prop where
  len : ρ.length = 24
  r1 : slotD ρ 1 = some (.ref 0)
  r3 : slotD ρ 3 = some (.ref p)
  r4 : slotD ρ 4 = some (.ref (p + 5))
  r5 : slotD ρ 5 = some (.ref (p + 6))
  r6 : slotD ρ 6 = some (.ref (p + 7))
theorem Rg.set {p : Nat} {ρ : Slots} (h : Rg p ρ) {i : Nat} (hi : 7 ≤ i) {s : Slot} : Rg p (ρ.set i s) :=
  ⟨by simp [h.len], by rw [slot_off (by omega)]; exact h.r1, by rw [slot_off (by omega)]; exact h.r3, by rw [slot_off (by omega)]; exact h.r4, by rw [slot_off (by omega)]; exact h.r5, by rw [slot_off (by omega)]; exact h.r6⟩
theorem Rg.lt {p : Nat} {ρ : Slots} (h : Rg p ρ) {i : Nat} (hi : i < 24) : i < ρ.length := by rw [h.len]; exact hi
structure SG (p z N c : Nat) (f g : Nat → Option Kd) (lim : Nat → Option Wd) (KS : List Kd) (cs : List D) (μ : Store) : Prop where
  p0 : 1 ≤ p
  ai : AllI cs
  bag : BagAt μ 0 cs
  sol : SolS z N p (p + 1) (p + 2) f lim μ
  net : NetS z N (p + 5) (p + 3) (p + 4) g lim μ
  mine : μ[p + 6]? = some (.lst (KS.map (Kd.e 1)))
  its : μ[p + 7]? = some (.lst (KS.map (Kd.e 0)))
  inv : Inv N c f g lim KS
  bN : N ≤ z
  bc : c ≤ z
  bK : KS.length ≤ z
def SGz (p z : Nat) (cs : List D) (μ : Store) : Prop := ∃ N c f g lim KS, SG p z N c f g lim KS cs μ
theorem SolS.frame {z N n t l : Nat} {f : Nat → Option Kd} {lim : Nat → Option Wd} {μ μ' : Store} (h : SolS z N n t l f lim μ) (a : μ'[n]? = μ[n]?) (b : μ'[t]? = μ[t]?) (c : μ'[l]? = μ[l]?) : SolS z N n t l f lim μ' := by
  obtain ⟨T, L, S, r⟩ := h
  exact ⟨T, L, ⟨a.trans S.n, b.trans S.t, c.trans S.l⟩, r⟩
theorem NetS.frame {z N n a m : Nat} {f : Nat → Option Kd} {lim : Nat → Option Wd} {μ μ' : Store} (h : NetS z N n a m f lim μ) (x : μ'[n]? = μ[n]?) (b : μ'[a]? = μ[a]?) (c : μ'[m]? = μ[m]?) : NetS z N n a m f lim μ' := by
  obtain ⟨T, L, S, r⟩ := h
  exact ⟨T, L, ⟨x.trans S.n, b.trans S.a, c.trans S.m⟩, r⟩
theorem bag_frame {μ μ' : Store} {n : Nat} {cs : List D} (h : BagAt μ n cs) (e : μ'[n]? = μ[n]?) : BagAt μ' n cs := by
  obtain ⟨a, b, c, h⟩ := h
  exact ⟨a, b, c, e.trans h⟩
section
variable {p z N c : Nat} {f g : Nat → Option Kd} {lim : Nat → Option Wd} {KS : List Kd} {cs : List D} {μ μ' : Store} {ρ : Slots}
theorem SG.frame (h : SG p z N c f g lim KS cs μ) (hb : BagAt μ' 0 cs) (e : ∀ i, p ≤ i → i < p + 8 → μ'[i]? = μ[i]?) : SG p z N c f g lim KS cs μ' :=
  ⟨h.p0, h.ai, hb, h.sol.frame (e _ (by omega) (by omega)) (e _ (by omega) (by omega)) (e _ (by omega) (by omega)), h.net.frame (e _ (by omega) (by omega)) (e _ (by omega) (by omega)) (e _ (by omega) (by omega)),
    (e _ (by omega) (by omega)).trans h.mine, (e _ (by omega) (by omega)).trans h.its, h.inv, h.bN, h.bc, h.bK⟩
theorem SG.stir (h : SG p z N c f g lim KS cs μ) (s : Stir 0 cs μ μ') : SG p z N c f g lim KS cs μ' :=
  h.frame (h.bag.stir s) fun i h1 _ => s.off (by have := h.p0; omega)
/-! small kinds are good data -/
def Kd.sm : Kd → Bool
  | .v i => decide (i < 1000) | .rv i => decide (i < 1000) | _ => true
theorem Kd.e_good {K : Kd} {o : Int} (h : K.sm = true) (ho : o = 0 ∨ o = 1) : (K.e o).good = true ∧ (K.e o).dep ≤ 2 ∧ (K.e o).wgt ≤ 60 := by
  have s1 : PyData.strOk ("some" : Str) = true := by decide +kernel
  have s2 : PyData.strOk ("row" : Str) = true := by decide +kernel
  have s3 : ∀ z : Bs, PyData.strOk z.s = true := fun z => by cases z <;> decide +kernel
  have w1 : ("some" : Str).cps.size = 4 := by decide +kernel
  have w2 : ("row" : Str).cps.size = 3 := by decide +kernel
  have w3 : ∀ z : Bs, z.s.cps.size ≤ 6 := fun z => by cases z <;> decide +kernel
  cases K with
  | b s => exact ⟨by simp [Kd.e, D.good, s3], by simp [Kd.e, D.dep], by have := w3 s; simp [Kd.e, D.wgt]; omega⟩
  | v i =>
    simp only [Kd.sm, decide_eq_true_eq] at h
    refine ⟨?_, by simp [Kd.e, some_, D.dep, depL], by simp [Kd.e, some_, D.wgt, wgtL, w1]⟩
    simp [Kd.e, some_, D.good, goodL, s1]; omega
  | rb s => exact ⟨by simp [Kd.e, row_, D.good, goodL, s2, s3], by simp [Kd.e, row_, D.dep, depL], by have := w3 s; simp [Kd.e, row_, D.wgt, wgtL, w2]; omega⟩
  | rv i =>
    simp only [Kd.sm, decide_eq_true_eq] at h
    refine ⟨?_, by simp [Kd.e, row_, some_, D.dep, depL], by simp [Kd.e, row_, some_, D.wgt, wgtL, w1, w2]⟩
    simp [Kd.e, row_, some_, D.good, goodL, s1, s2]; omega
theorem goods {Ks : List Kd} {o : Int} (h : ∀ K ∈ Ks, K.sm = true) (ho : o = 0 ∨ o = 1) : goodL (Ks.map (Kd.e o)) = true ∧ depL (Ks.map (Kd.e o)) ≤ 2 ∧ wgtL (Ks.map (Kd.e o)) ≤ Ks.length * 61 := by
  induction Ks with
  | nil => exact ⟨rfl, by simp [depL], by simp [wgtL]⟩
  | cons K Ks ih =>
    obtain ⟨a, b, c⟩ := Kd.e_good (h K List.mem_cons_self) ho
    obtain ⟨a', b', c'⟩ := ih fun K hK => h K (List.mem_cons_of_mem _ hK)
    refine ⟨by simp [goodL, a, a'], by simp [depL]; omega, by simp [wgtL]; omega⟩
theorem eq_nil {Ks : List Kd} {o : Int} (h : ∀ K ∈ Ks, K.sm = true) (ho : o = 0 ∨ o = 1) : eqD (.lst (Ks.map (Kd.e o))) (.lst []) = some Ks.isEmpty := by
  obtain ⟨a, b, c⟩ := goods (o := o) h ho
  obtain ⟨ps, G⟩ := goodL_py a
  have Gd : Gd (.lst (Ks.map (Kd.e o))) (.list ps) := ⟨by simp [D.py, G.py], by simpa [PyData.canLay0] using G.lay, by simpa [PyData.leavesShort] using G.short, by simpa [PyData.showable] using G.show_, by simpa [PyData.weight, D.wgt] using G.w, by simp [PyData.depth, D.dep, G.dp]⟩
  have sh := Gd.shaped (by simp [D.dep]; omega)
  have sh0 : SeqAt.shaped (.list []) = true := by decide +kernel
  have hp := Gd.py
  have hq : (D.lst []).py = some (.list []) := rfl
  unfold eqD
  rw [if_neg (by simp [D.flat]), hp, hq]
  simp only [sh, sh0, Bool.and_self, if_true]
  cases Ks with
  | nil =>
    have : ps = [] := by have := G.py; simp [pyL] at this; exact this
    subst this; rfl
  | cons K Ks =>
    cases ps with
    | nil =>
      have := G.py
      simp only [List.map_cons, pyL] at this
      split at this <;> simp at this
    | cons q ps => rfl
theorem SG.sm (h : SG p z N c f g lim KS cs μ) (bz : z < 300) : ∀ K ∈ KS, K.sm = true := by
  intro K hK
  have := h.bN
  obtain ⟨i, hi, rfl | rfl⟩ := h.inv.ks K hK <;> simp [Kd.sm] <;> omega
/-! the way -/
theorem way_ok (R : Rg p ρ) (G : SG p z N c f g lim KS cs μ) (bz : z < 300) : ∃ (v : Int) (μ' : Store), evS Γ0 sWay ρ μ = some (.nx, ρ.set 8 (.val (.int v)), μ') ∧ SG p z N c f g lim KS cs μ' ∧ (KS = [] → v = 0) := by
  have e1 := eq_nil (o := 1) (G.sm bz) (.inr rfl)
  have e2 := view_lstc G.mine
  have l8 := R.lt (i := 8) (by decide)
  cases KS with
  | nil =>
    simp only [List.map_nil, List.isEmpty_nil] at e1 e2
    refine ⟨0, μ, ?_, G, fun _ => rfl⟩
    simp [sWay, evE, evEs, evO, evC, evF, evSrc, evIn, evS, evSs, Option.bind_some, Option.map_some, Option.bind_none, Option.map_none, List.map_cons, List.map_nil, slot_c0, slot_cs, own_c0, own_cs, ownv_c0, ownv_cs, ownt_c0, tup_c0, tup_cs, view_int, view_str, view_bl, view_non, view_tup, view_lst, view_ty, view_fn, p_bin, p_neg, p_cmp, p_ix, p_len_tup, p_len_lst, p_abs, p_int, p_intb, p_isi, p_tuple_tup, p_tuple_lst, p_max, p_min, b_add_int, b_sub_int, c_lt, c_le, c_gt, c_ge, c_eq, c_ne, ix_tup, ix_lst, at0, at1, at2, at3, at4, at5, eq_int, eq_str, eq_bl, truD, set_c0, set_cs, setS_c, isi_tuple_tup, isi_tuple_lst, isi_tuple_str, isi_tuple_int, isi_tuple_non, isi_tuple_bl, isi_str_str, isi_str_tup, isi_str_int, isi_str_non, isi_str_lst, isi_str_bl, if_true_, if_false_, R.r5, R.r1, e1, e2, le_size, l8]
  | cons K Ks =>
    obtain ⟨v, μ1, e, st, v1, v2⟩ := take_at (fs := fs) (t := 16) (k := 58) (many := 6) rfl G.bag G.ai (by decide) (by decide)
    simp only [List.isEmpty_cons, List.map_cons] at e1 e2
    refine ⟨v, μ1, ?_, G.stir st, fun h => (nomatch h)⟩
    simp [sWay, evE, evEs, evO, evC, evF, evSrc, evIn, evS, evSs, Option.bind_some, Option.map_some, Option.bind_none, Option.map_none, List.map_cons, List.map_nil, slot_c0, slot_cs, own_c0, own_cs, ownv_c0, ownv_cs, ownt_c0, tup_c0, tup_cs, view_int, view_str, view_bl, view_non, view_tup, view_lst, view_ty, view_fn, p_bin, p_neg, p_cmp, p_ix, p_len_tup, p_len_lst, p_abs, p_int, p_intb, p_isi, p_tuple_tup, p_tuple_lst, p_max, p_min, b_add_int, b_sub_int, c_lt, c_le, c_gt, c_ge, c_eq, c_ne, ix_tup, ix_lst, at0, at1, at2, at3, at4, at5, eq_int, eq_str, eq_bl, truD, set_c0, set_cs, setS_c, isi_tuple_tup, isi_tuple_lst, isi_tuple_str, isi_tuple_int, isi_tuple_non, isi_tuple_bl, isi_str_str, isi_str_tup, isi_str_int, isi_str_non, isi_str_lst, isi_str_bl, if_true_, if_false_, R.r5, R.r1, e1, e2, le_size, l8, Γf, e]
theorem one {Γ : Env2} {s : IS} : evSs Γ (.cons s .nil) ρ μ = evS Γ s ρ μ := by
  simp only [evSs]
  cases evS Γ s ρ μ with
  | none => rfl
  | some r => obtain ⟨fl, r1, r2⟩ := r; cases fl <;> rfl
theorem if_ev {Γ : Env2} {c : IE} {a b : ISs} (t : Bool) (hc : evE Γ c ρ μ = some (.bl t, μ')) : evS Γ (.ifs c a b) ρ μ = if t then evSs Γ a ρ μ' else evSs Γ b ρ μ' := by
  simp only [evS, hc, Option.bind_some, view_bl, truD]
theorem if_A {v : Int} (h8 : slotD ρ 8 = some (.int v)) (hv : v < 2) : evS Γ0 sIf ρ μ = evSs Γ0 sA ρ μ := by
  unfold sIf
  rw [if_ev (μ' := μ) true (by simp [evE, evEs, evO, evC, evF, evSrc, evIn, evS, evSs, Option.bind_some, Option.map_some, Option.bind_none, Option.map_none, List.map_cons, List.map_nil, slot_c0, slot_cs, own_c0, own_cs, ownv_c0, ownv_cs, ownt_c0, tup_c0, tup_cs, view_int, view_str, view_bl, view_non, view_tup, view_lst, view_ty, view_fn, p_bin, p_neg, p_cmp, p_ix, p_len_tup, p_len_lst, p_abs, p_int, p_intb, p_isi, p_tuple_tup, p_tuple_lst, p_max, p_min, b_add_int, b_sub_int, c_lt, c_le, c_gt, c_ge, c_eq, c_ne, ix_tup, ix_lst, at0, at1, at2, at3, at4, at5, eq_int, eq_str, eq_bl, truD, set_c0, set_cs, setS_c, isi_tuple_tup, isi_tuple_lst, isi_tuple_str, isi_tuple_int, isi_tuple_non, isi_tuple_bl, isi_str_str, isi_str_tup, isi_str_int, isi_str_non, isi_str_lst, isi_str_bl, if_true_, if_false_, h8, hv])]; rfl
theorem if_B {v : Int} (h8 : slotD ρ 8 = some (.int v)) (hv : v = 2) : evS Γ0 sIf ρ μ = evSs Γ0 sB ρ μ := by
  unfold sIf
  rw [if_ev (μ' := μ) false (by subst hv; simp [evE, evEs, evO, evC, evF, evSrc, evIn, evS, evSs, Option.bind_some, Option.map_some, Option.bind_none, Option.map_none, List.map_cons, List.map_nil, slot_c0, slot_cs, own_c0, own_cs, ownv_c0, ownv_cs, ownt_c0, tup_c0, tup_cs, view_int, view_str, view_bl, view_non, view_tup, view_lst, view_ty, view_fn, p_bin, p_neg, p_cmp, p_ix, p_len_tup, p_len_lst, p_abs, p_int, p_intb, p_isi, p_tuple_tup, p_tuple_lst, p_max, p_min, b_add_int, b_sub_int, c_lt, c_le, c_gt, c_ge, c_eq, c_ne, ix_tup, ix_lst, at0, at1, at2, at3, at4, at5, eq_int, eq_str, eq_bl, truD, set_c0, set_cs, setS_c, isi_tuple_tup, isi_tuple_lst, isi_tuple_str, isi_tuple_int, isi_tuple_non, isi_tuple_bl, isi_str_str, isi_str_tup, isi_str_int, isi_str_non, isi_str_lst, isi_str_bl, if_true_, if_false_, h8])]
  simp only [Bool.false_eq_true, if_false]
  rw [one, if_ev (μ' := μ) true (by subst hv; simp [evE, evEs, evO, evC, evF, evSrc, evIn, evS, evSs, Option.bind_some, Option.map_some, Option.bind_none, Option.map_none, List.map_cons, List.map_nil, slot_c0, slot_cs, own_c0, own_cs, ownv_c0, ownv_cs, ownt_c0, tup_c0, tup_cs, view_int, view_str, view_bl, view_non, view_tup, view_lst, view_ty, view_fn, p_bin, p_neg, p_cmp, p_ix, p_len_tup, p_len_lst, p_abs, p_int, p_intb, p_isi, p_tuple_tup, p_tuple_lst, p_max, p_min, b_add_int, b_sub_int, c_lt, c_le, c_gt, c_ge, c_eq, c_ne, ix_tup, ix_lst, at0, at1, at2, at3, at4, at5, eq_int, eq_str, eq_bl, truD, set_c0, set_cs, setS_c, isi_tuple_tup, isi_tuple_lst, isi_tuple_str, isi_tuple_int, isi_tuple_non, isi_tuple_bl, isi_str_str, isi_str_tup, isi_str_int, isi_str_non, isi_str_lst, isi_str_bl, if_true_, if_false_, h8])]; rfl
theorem if_C {v : Int} (h8 : slotD ρ 8 = some (.int v)) (hv : 2 < v ∧ v < 5) : evS Γ0 sIf ρ μ = evSs Γ0 sC ρ μ := by
  obtain ⟨h1, h2⟩ := hv
  unfold sIf
  rw [if_ev (μ' := μ) false (by simp [evE, evEs, evO, evC, evF, evSrc, evIn, evS, evSs, Option.bind_some, Option.map_some, Option.bind_none, Option.map_none, List.map_cons, List.map_nil, slot_c0, slot_cs, own_c0, own_cs, ownv_c0, ownv_cs, ownt_c0, tup_c0, tup_cs, view_int, view_str, view_bl, view_non, view_tup, view_lst, view_ty, view_fn, p_bin, p_neg, p_cmp, p_ix, p_len_tup, p_len_lst, p_abs, p_int, p_intb, p_isi, p_tuple_tup, p_tuple_lst, p_max, p_min, b_add_int, b_sub_int, c_lt, c_le, c_gt, c_ge, c_eq, c_ne, ix_tup, ix_lst, at0, at1, at2, at3, at4, at5, eq_int, eq_str, eq_bl, truD, set_c0, set_cs, setS_c, isi_tuple_tup, isi_tuple_lst, isi_tuple_str, isi_tuple_int, isi_tuple_non, isi_tuple_bl, isi_str_str, isi_str_tup, isi_str_int, isi_str_non, isi_str_lst, isi_str_bl, if_true_, if_false_, h8]; omega)]
  simp only [Bool.false_eq_true, if_false]
  rw [one, if_ev (μ' := μ) false (by simp [evE, evEs, evO, evC, evF, evSrc, evIn, evS, evSs, Option.bind_some, Option.map_some, Option.bind_none, Option.map_none, List.map_cons, List.map_nil, slot_c0, slot_cs, own_c0, own_cs, ownv_c0, ownv_cs, ownt_c0, tup_c0, tup_cs, view_int, view_str, view_bl, view_non, view_tup, view_lst, view_ty, view_fn, p_bin, p_neg, p_cmp, p_ix, p_len_tup, p_len_lst, p_abs, p_int, p_intb, p_isi, p_tuple_tup, p_tuple_lst, p_max, p_min, b_add_int, b_sub_int, c_lt, c_le, c_gt, c_ge, c_eq, c_ne, ix_tup, ix_lst, at0, at1, at2, at3, at4, at5, eq_int, eq_str, eq_bl, truD, set_c0, set_cs, setS_c, isi_tuple_tup, isi_tuple_lst, isi_tuple_str, isi_tuple_int, isi_tuple_non, isi_tuple_bl, isi_str_str, isi_str_tup, isi_str_int, isi_str_non, isi_str_lst, isi_str_bl, if_true_, if_false_, h8]; omega)]
  simp only [Bool.false_eq_true, if_false]
  rw [one, if_ev (μ' := μ) true (by simp [evE, evEs, evO, evC, evF, evSrc, evIn, evS, evSs, Option.bind_some, Option.map_some, Option.bind_none, Option.map_none, List.map_cons, List.map_nil, slot_c0, slot_cs, own_c0, own_cs, ownv_c0, ownv_cs, ownt_c0, tup_c0, tup_cs, view_int, view_str, view_bl, view_non, view_tup, view_lst, view_ty, view_fn, p_bin, p_neg, p_cmp, p_ix, p_len_tup, p_len_lst, p_abs, p_int, p_intb, p_isi, p_tuple_tup, p_tuple_lst, p_max, p_min, b_add_int, b_sub_int, c_lt, c_le, c_gt, c_ge, c_eq, c_ne, ix_tup, ix_lst, at0, at1, at2, at3, at4, at5, eq_int, eq_str, eq_bl, truD, set_c0, set_cs, setS_c, isi_tuple_tup, isi_tuple_lst, isi_tuple_str, isi_tuple_int, isi_tuple_non, isi_tuple_bl, isi_str_str, isi_str_tup, isi_str_int, isi_str_non, isi_str_lst, isi_str_bl, if_true_, if_false_, h8]; omega)]; rfl
theorem if_D {v : Int} (h8 : slotD ρ 8 = some (.int v)) (hv : 5 ≤ v) : evS Γ0 sIf ρ μ = evSs Γ0 sD ρ μ := by
  unfold sIf
  rw [if_ev (μ' := μ) false (by simp [evE, evEs, evO, evC, evF, evSrc, evIn, evS, evSs, Option.bind_some, Option.map_some, Option.bind_none, Option.map_none, List.map_cons, List.map_nil, slot_c0, slot_cs, own_c0, own_cs, ownv_c0, ownv_cs, ownt_c0, tup_c0, tup_cs, view_int, view_str, view_bl, view_non, view_tup, view_lst, view_ty, view_fn, p_bin, p_neg, p_cmp, p_ix, p_len_tup, p_len_lst, p_abs, p_int, p_intb, p_isi, p_tuple_tup, p_tuple_lst, p_max, p_min, b_add_int, b_sub_int, c_lt, c_le, c_gt, c_ge, c_eq, c_ne, ix_tup, ix_lst, at0, at1, at2, at3, at4, at5, eq_int, eq_str, eq_bl, truD, set_c0, set_cs, setS_c, isi_tuple_tup, isi_tuple_lst, isi_tuple_str, isi_tuple_int, isi_tuple_non, isi_tuple_bl, isi_str_str, isi_str_tup, isi_str_int, isi_str_non, isi_str_lst, isi_str_bl, if_true_, if_false_, h8]; omega)]
  simp only [Bool.false_eq_true, if_false]
  rw [one, if_ev (μ' := μ) false (by simp [evE, evEs, evO, evC, evF, evSrc, evIn, evS, evSs, Option.bind_some, Option.map_some, Option.bind_none, Option.map_none, List.map_cons, List.map_nil, slot_c0, slot_cs, own_c0, own_cs, ownv_c0, ownv_cs, ownt_c0, tup_c0, tup_cs, view_int, view_str, view_bl, view_non, view_tup, view_lst, view_ty, view_fn, p_bin, p_neg, p_cmp, p_ix, p_len_tup, p_len_lst, p_abs, p_int, p_intb, p_isi, p_tuple_tup, p_tuple_lst, p_max, p_min, b_add_int, b_sub_int, c_lt, c_le, c_gt, c_ge, c_eq, c_ne, ix_tup, ix_lst, at0, at1, at2, at3, at4, at5, eq_int, eq_str, eq_bl, truD, set_c0, set_cs, setS_c, isi_tuple_tup, isi_tuple_lst, isi_tuple_str, isi_tuple_int, isi_tuple_non, isi_tuple_bl, isi_str_str, isi_str_tup, isi_str_int, isi_str_non, isi_str_lst, isi_str_bl, if_true_, if_false_, h8]; omega)]
  simp only [Bool.false_eq_true, if_false]
  rw [one, if_ev (μ' := μ) false (by simp [evE, evEs, evO, evC, evF, evSrc, evIn, evS, evSs, Option.bind_some, Option.map_some, Option.bind_none, Option.map_none, List.map_cons, List.map_nil, slot_c0, slot_cs, own_c0, own_cs, ownv_c0, ownv_cs, ownt_c0, tup_c0, tup_cs, view_int, view_str, view_bl, view_non, view_tup, view_lst, view_ty, view_fn, p_bin, p_neg, p_cmp, p_ix, p_len_tup, p_len_lst, p_abs, p_int, p_intb, p_isi, p_tuple_tup, p_tuple_lst, p_max, p_min, b_add_int, b_sub_int, c_lt, c_le, c_gt, c_ge, c_eq, c_ne, ix_tup, ix_lst, at0, at1, at2, at3, at4, at5, eq_int, eq_str, eq_bl, truD, set_c0, set_cs, setS_c, isi_tuple_tup, isi_tuple_lst, isi_tuple_str, isi_tuple_int, isi_tuple_non, isi_tuple_bl, isi_str_str, isi_str_tup, isi_str_int, isi_str_non, isi_str_lst, isi_str_bl, if_true_, if_false_, h8]; omega)]; rfl
/-! what a step may come to -/
def Nx (p z : Nat) (cs : List D) (r : SR) : Prop := ∃ ρ' μ', r = some (.nx, ρ', μ') ∧ Rg p ρ' ∧ SGz p z cs μ'
def Bk (cs : List D) (r : SR) : Prop := ∃ ρ' μ', r = some (.brk, ρ', μ') ∧ ρ'.length = 24 ∧ slotD ρ' 1 = some (.ref 0) ∧ BagAt μ' 0 cs
theorem w_of {d : D} (h : d ∈ [D.str "any", D.str "any", D.str "plain", D.str "ordered"]) : ∃ w : Wd, d = .str w.s := by
  simp only [List.mem_cons, List.not_mem_nil, or_false] at h
  rcases h with h | h | h | h
  · exact ⟨.any, h⟩
  · exact ⟨.any, h⟩
  · exact ⟨.plain, h⟩
  · exact ⟨.ord, h⟩
theorem w_of3 {d : D} (h : d ∈ [D.str "any", D.str "plain", D.str "ordered"]) : ∃ w : Wd, d = .str w.s := w_of (by simp only [List.mem_cons] at h ⊢; exact .inr h)
theorem map_snoc {Ks : List Kd} {K : Kd} {o : Int} : (Ks ++ [K]).map (Kd.e o) = Ks.map (Kd.e o) ++ [K.e o] := by simp
/-- a call of the solver's -/
theorem mc_ev {m : Str} {fd : Nat} {es : IEs} (R : Rg p ρ) (hS : SolS z N p (p + 1) (p + 2) f lim μ) (hm : ∀ t l : D, ([("told", t), ("limits", l)] : List (Str × D)).lookup m = none) :
    evE Γ0 (.mcall 0 m fd (.var 3) es) ρ μ = (evEs Γ0 es ρ μ).bind fun q => run fs 59 fd (.ref p :: q.1) q.2 := by
  obtain ⟨T, L, S, _⟩ := hS
  simp [evE, evEs, evO, evC, evF, evSrc, evIn, evS, evSs, Option.bind_some, Option.map_some, Option.bind_none, Option.map_none, List.map_cons, List.map_nil, slot_c0, slot_cs, own_c0, own_cs, ownv_c0, ownv_cs, ownt_c0, tup_c0, tup_cs, view_int, view_str, view_bl, view_non, view_tup, view_lst, view_ty, view_fn, p_bin, p_neg, p_cmp, p_ix, p_len_tup, p_len_lst, p_abs, p_int, p_intb, p_isi, p_tuple_tup, p_tuple_lst, p_max, p_min, b_add_int, b_sub_int, c_lt, c_le, c_gt, c_ge, c_eq, c_ne, ix_tup, ix_lst, at0, at1, at2, at3, at4, at5, eq_int, eq_str, eq_bl, truD, set_c0, set_cs, setS_c, isi_tuple_tup, isi_tuple_lst, isi_tuple_str, isi_tuple_int, isi_tuple_non, isi_tuple_bl, isi_str_str, isi_str_tup, isi_str_int, isi_str_non, isi_str_lst, isi_str_bl, if_true_, if_false_, R.r3, S.n, hm, Γf]
theorem A_ok (R : Rg p ρ) (G : SG p z N c f g lim KS cs μ) (bz : z < 300) : Nx p (z + 1) cs (evSs Γ0 sA ρ μ) := by
  obtain ⟨d, μ1, e, st, hd⟩ := some_at (fs := fs) (t := 16) (s := 17) (k := 57) (ds := [.str "any", .str "any", .str "plain", .str "ordered"]) rfl rfl G.bag G.ai (by simp) (by simp)
  obtain ⟨w, rfl⟩ := w_of hd
  have l9 := R.lt (i := 9) (by decide)
  have bN := G.bN
  have bK := G.bK
  have p0 := G.p0
  have s1 : evS Γ0 (.set 9 (.call "_law_some" 17 (.cons (.var 1) (.cons (.frz (.disp (.cons (.lit (.str "any")) (.cons (.lit (.str "any")) (.cons (.lit (.str "plain")) (.cons (.lit (.str "ordered")) .nil)))))) .nil)))) ρ μ = some (.nx, ρ.set 9 (.val (.str w.s)), μ1) :=
    set_ev (by simp [evE, evEs, evO, evC, evF, evSrc, evIn, evS, evSs, Option.bind_some, Option.map_some, Option.bind_none, Option.map_none, List.map_cons, List.map_nil, slot_c0, slot_cs, own_c0, own_cs, ownv_c0, ownv_cs, ownt_c0, tup_c0, tup_cs, view_int, view_str, view_bl, view_non, view_tup, view_lst, view_ty, view_fn, p_bin, p_neg, p_cmp, p_ix, p_len_tup, p_len_lst, p_abs, p_int, p_intb, p_isi, p_tuple_tup, p_tuple_lst, p_max, p_min, b_add_int, b_sub_int, c_lt, c_le, c_gt, c_ge, c_eq, c_ne, ix_tup, ix_lst, at0, at1, at2, at3, at4, at5, eq_int, eq_str, eq_bl, truD, set_c0, set_cs, setS_c, isi_tuple_tup, isi_tuple_lst, isi_tuple_str, isi_tuple_int, isi_tuple_non, isi_tuple_bl, isi_str_str, isi_str_tup, isi_str_int, isi_str_non, isi_str_lst, isi_str_bl, if_true_, if_false_, R.r1, le_size, Γf, e]) l9
  have R1 := R.set (i := 9) (by decide) (s := .val (.str w.s))
  have G1 := G.stir st
  have v9 : slotD (ρ.set 9 (.val (.str w.s))) 9 = some (.str w.s) := slot_on l9
  obtain ⟨μ2, e2, ch2, N2⟩ := anewN (k := 58) (N := N) (z := z) (g := g) (lim := lim) (by omega) w (p + 5) (p + 3) (p + 4) μ1 (by omega) G1.net
  have q2 : ∀ i, i < p + 3 ∨ p + 5 < i → μ2[i]? = μ1[i]? := fun i hi => ch2.2 i (by simp; omega)
  have s2 : evS Γ0 (.app (.var 5) (.call "_law_fresh" 23 (.cons (.var 4) (.cons (.var 9) .nil)))) (ρ.set 9 (.val (.str w.s))) μ1 = some (.nx, ρ.set 9 (.val (.str w.s)), μ2.set (p + 6) (.lst (KS.map (Kd.e 1) ++ [(Kd.v N).e 1]))) :=
    app_ev (var_ev R1.r5) G1.mine (by simp [evE, evEs, evO, evC, evF, evSrc, evIn, evS, evSs, Option.bind_some, Option.map_some, Option.bind_none, Option.map_none, List.map_cons, List.map_nil, slot_c0, slot_cs, own_c0, own_cs, ownv_c0, ownv_cs, ownt_c0, tup_c0, tup_cs, view_int, view_str, view_bl, view_non, view_tup, view_lst, view_ty, view_fn, p_bin, p_neg, p_cmp, p_ix, p_len_tup, p_len_lst, p_abs, p_int, p_intb, p_isi, p_tuple_tup, p_tuple_lst, p_max, p_min, b_add_int, b_sub_int, c_lt, c_le, c_gt, c_ge, c_eq, c_ne, ix_tup, ix_lst, at0, at1, at2, at3, at4, at5, eq_int, eq_str, eq_bl, truD, set_c0, set_cs, setS_c, isi_tuple_tup, isi_tuple_lst, isi_tuple_str, isi_tuple_int, isi_tuple_non, isi_tuple_bl, isi_str_str, isi_str_tup, isi_str_int, isi_str_non, isi_str_lst, isi_str_bl, if_true_, if_false_, R1.r4, v9, Γf, e2]) ((q2 _ (by omega)).trans G1.mine) (by simp; omega)
  generalize hμ3 : μ2.set (p + 6) (.lst (KS.map (Kd.e 1) ++ [(Kd.v N).e 1])) = μ3 at s2
  have q3 : ∀ i, i ≠ p + 6 → μ3[i]? = μ2[i]? := fun i hi => by rw [← hμ3]; exact set_off (Ne.symm hi)
  have m3 : μ3[p + 6]? = some (.lst (KS.map (Kd.e 1) ++ [(Kd.v N).e 1])) := by rw [← hμ3]; exact set_at ((q2 _ (by omega)).trans G1.mine)
  have S3 : SolS z N p (p + 1) (p + 2) f lim μ3 := G1.sol.frame ((q3 _ (by omega)).trans (q2 _ (by omega))) ((q3 _ (by omega)).trans (q2 _ (by omega))) ((q3 _ (by omega)).trans (q2 _ (by omega)))
  obtain ⟨μ4, e4, ch4, S4⟩ := anewS (k := 58) (N := N) (z := z) (f := f) (lim := lim) (by omega) w p (p + 1) (p + 2) μ3 S3
  have q4 : ∀ i, i < p + 1 ∨ p + 2 < i → μ4[i]? = μ3[i]? := fun i hi => ch4.2 i (by simp; omega)
  have i4 : μ4[p + 7]? = some (.lst (KS.map (Kd.e 0))) := (q4 _ (by omega)).trans ((q3 _ (by omega)).trans ((q2 _ (by omega)).trans G1.its))
  have s3 : evS Γ0 (.app (.var 6) (.mcall 0 "fresh" 5 (.var 3) (.cons (.var 9) .nil))) (ρ.set 9 (.val (.str w.s))) μ3 = some (.nx, ρ.set 9 (.val (.str w.s)), μ4.set (p + 7) (.lst (KS.map (Kd.e 0) ++ [(Kd.v N).e 0]))) := by
    refine app_ev (var_ev R1.r6) ((q3 _ (by omega)).trans ((q2 _ (by omega)).trans G1.its)) ?_ i4 (by simp; omega)
    rw [mc_ev R1 S3 (fun _ _ => no_fresh)]
    simp [evE, evEs, evO, evC, evF, evSrc, evIn, evS, evSs, Option.bind_some, Option.map_some, Option.bind_none, Option.map_none, List.map_cons, List.map_nil, slot_c0, slot_cs, own_c0, own_cs, ownv_c0, ownv_cs, ownt_c0, tup_c0, tup_cs, view_int, view_str, view_bl, view_non, view_tup, view_lst, view_ty, view_fn, p_bin, p_neg, p_cmp, p_ix, p_len_tup, p_len_lst, p_abs, p_int, p_intb, p_isi, p_tuple_tup, p_tuple_lst, p_max, p_min, b_add_int, b_sub_int, c_lt, c_le, c_gt, c_ge, c_eq, c_ne, ix_tup, ix_lst, at0, at1, at2, at3, at4, at5, eq_int, eq_str, eq_bl, truD, set_c0, set_cs, setS_c, isi_tuple_tup, isi_tuple_lst, isi_tuple_str, isi_tuple_int, isi_tuple_non, isi_tuple_bl, isi_str_str, isi_str_tup, isi_str_int, isi_str_non, isi_str_lst, isi_str_bl, if_true_, if_false_, v9, e4]
  generalize hμ5 : μ4.set (p + 7) (.lst (KS.map (Kd.e 0) ++ [(Kd.v N).e 0])) = μ5 at s3
  have q5 : ∀ i, i ≠ p + 7 → μ5[i]? = μ4[i]? := fun i hi => by rw [← hμ5]; exact set_off (Ne.symm hi)
  have i5 : μ5[p + 7]? = some (.lst (KS.map (Kd.e 0) ++ [(Kd.v N).e 0])) := by rw [← hμ5]; exact set_at i4
  refine ⟨_, μ5, by unfold sA; rw [seq s1, seq s2, seq s3]; rfl, R1, N + 1, c, f, g, upl lim N w, KS ++ [.v N], ?_⟩
  refine ⟨p0, G.ai, ?_, ?_, ?_, ?_, ?_, G.inv.fresh w, ?_, ?_, ?_⟩
  · exact bag_frame G1.bag ((q5 _ (by omega)).trans ((q4 _ (by omega)).trans ((q3 _ (by omega)).trans (q2 _ (by omega)))))
  · exact S4.frame (q5 _ (by omega)) (q5 _ (by omega)) (q5 _ (by omega))
  · exact N2.frame ((q5 _ (by omega)).trans ((q4 _ (by omega)).trans (q3 _ (by omega)))) ((q5 _ (by omega)).trans ((q4 _ (by omega)).trans (q3 _ (by omega)))) ((q5 _ (by omega)).trans ((q4 _ (by omega)).trans (q3 _ (by omega))))
  · rw [map_snoc]; exact (q5 _ (by omega)).trans ((q4 _ (by omega)).trans m3)
  · rw [map_snoc]; exact i5
  · omega
  · have := G.bc; omega
  · simp; omega
end
end FH.K06
end
section
namespace FH.K06
open PySem PySem.Spec PyProof.Rows L2
section
variable {p z N c : Nat} {f g : Nat → Option Kd} {lim : Nat → Option Wd} {KS : List Kd} {cs : List D} {μ μ' : Store} {ρ : Slots} {K : Kd} {i j : Nat}
theorem SG.at_ (G : SG p z N c f g lim KS cs μ) (h : KS[j]? = some K) : K ∈ KS := List.mem_of_getElem? h
theorem pick (R : Rg p ρ) (G : SG p z N c f g lim KS cs μ) (bz : z < 300) (ne : KS ≠ []) : ∃ (j : Nat) (K : Kd) (μ' : Store), evE Γ0 (.call "_law_take" 16 (.cons (.var 1) (.cons (.prim .len (.cons (.var 5) .nil)) .nil))) ρ μ = some (.int (j : Int), μ') ∧ Stir 0 cs μ μ' ∧ KS[j]? = some K := by
  have hl := List.length_pos_iff.mpr ne
  have := G.bK
  obtain ⟨v, μ1, e, st, v1, v2⟩ := take_at (fs := fs) (t := 16) (k := 58) (many := (KS.length : Int)) rfl G.bag G.ai (by omega) (by omega)
  obtain ⟨j, rfl⟩ := Int.eq_ofNat_of_zero_le v1
  have hj : j < KS.length := by omega
  refine ⟨j, KS[j], μ1, ?_, st, by simp [hj]⟩
  have e2 := view_lstc G.mine
  simp [evE, evEs, evO, evC, evF, evSrc, evIn, evS, evSs, Option.bind_some, Option.map_some, Option.bind_none, Option.map_none, List.map_cons, List.map_nil, slot_c0, slot_cs, own_c0, own_cs, ownv_c0, ownv_cs, ownt_c0, tup_c0, tup_cs, view_int, view_str, view_bl, view_non, view_tup, view_lst, view_ty, view_fn, p_bin, p_neg, p_cmp, p_ix, p_len_tup, p_len_lst, p_abs, p_int, p_intb, p_isi, p_tuple_tup, p_tuple_lst, p_max, p_min, b_add_int, b_sub_int, c_lt, c_le, c_gt, c_ge, c_eq, c_ne, ix_tup, ix_lst, at0, at1, at2, at3, at4, at5, eq_int, eq_str, eq_bl, truD, set_c0, set_cs, setS_c, isi_tuple_tup, isi_tuple_lst, isi_tuple_str, isi_tuple_int, isi_tuple_non, isi_tuple_bl, isi_str_str, isi_str_tup, isi_str_int, isi_str_non, isi_str_lst, isi_str_bl, if_true_, if_false_, R.r1, R.r5, e2, Γf, e]
theorem ix_mine (R : Rg p ρ) (hm : μ[p + 6]? = some (.lst (KS.map (Kd.e 1)))) (hi : slotD ρ i = some (.int (j : Int))) (hK : KS[j]? = some K) : evE Γ0 (.prim .ix (.cons (.var 5) (.cons (.var i) .nil))) ρ μ = some (K.e 1, μ) := by
  have e2 := view_lstc hm
  have e3 : L2.atI (KS.map (Kd.e 1)) (j : Int) = some (K.e 1) := atI_nat (by simp [hK])
  simp [evE, evEs, evO, evC, evF, evSrc, evIn, evS, evSs, Option.bind_some, Option.map_some, Option.bind_none, Option.map_none, List.map_cons, List.map_nil, slot_c0, slot_cs, own_c0, own_cs, ownv_c0, ownv_cs, ownt_c0, tup_c0, tup_cs, view_int, view_str, view_bl, view_non, view_tup, view_lst, view_ty, view_fn, p_bin, p_neg, p_cmp, p_ix, p_len_tup, p_len_lst, p_abs, p_int, p_intb, p_isi, p_tuple_tup, p_tuple_lst, p_max, p_min, b_add_int, b_sub_int, c_lt, c_le, c_gt, c_ge, c_eq, c_ne, ix_tup, ix_lst, at0, at1, at2, at3, at4, at5, eq_int, eq_str, eq_bl, truD, set_c0, set_cs, setS_c, isi_tuple_tup, isi_tuple_lst, isi_tuple_str, isi_tuple_int, isi_tuple_non, isi_tuple_bl, isi_str_str, isi_str_tup, isi_str_int, isi_str_non, isi_str_lst, isi_str_bl, if_true_, if_false_, R.r5, hi, e2, e3]
theorem ix_its (R : Rg p ρ) (hm : μ[p + 7]? = some (.lst (KS.map (Kd.e 0)))) (hi : slotD ρ i = some (.int (j : Int))) (hK : KS[j]? = some K) : evE Γ0 (.prim .ix (.cons (.var 6) (.cons (.var i) .nil))) ρ μ = some (K.e 0, μ) := by
  have e2 := view_lstc hm
  have e3 : L2.atI (KS.map (Kd.e 0)) (j : Int) = some (K.e 0) := atI_nat (by simp [hK])
  simp [evE, evEs, evO, evC, evF, evSrc, evIn, evS, evSs, Option.bind_some, Option.map_some, Option.bind_none, Option.map_none, List.map_cons, List.map_nil, slot_c0, slot_cs, own_c0, own_cs, ownv_c0, ownv_cs, ownt_c0, tup_c0, tup_cs, view_int, view_str, view_bl, view_non, view_tup, view_lst, view_ty, view_fn, p_bin, p_neg, p_cmp, p_ix, p_len_tup, p_len_lst, p_abs, p_int, p_intb, p_isi, p_tuple_tup, p_tuple_lst, p_max, p_min, b_add_int, b_sub_int, c_lt, c_le, c_gt, c_ge, c_eq, c_ne, ix_tup, ix_lst, at0, at1, at2, at3, at4, at5, eq_int, eq_str, eq_bl, truD, set_c0, set_cs, setS_c, isi_tuple_tup, isi_tuple_lst, isi_tuple_str, isi_tuple_int, isi_tuple_non, isi_tuple_bl, isi_str_str, isi_str_tup, isi_str_int, isi_str_non, isi_str_lst, isi_str_bl, if_true_, if_false_, R.r6, hi, e2, e3]
theorem nil_ev {Γ : Env2} : evSs Γ .nil ρ μ = some (.nx, ρ, μ) := by simp only [evSs]
theorem brk_ev {Γ : Env2} : evSs Γ (.cons .brk .nil) ρ μ = some (.brk, ρ, μ) := by simp only [evSs, evS, Option.bind_some]
/-- the end of a step: on, or out -/
theorem out_ev {Γ : Env2} {r : Bool} (h : slotD ρ 11 = some (.bl r)) : evS Γ (.ifs (.nott (.var 11)) (.cons .brk .nil) .nil) ρ μ = some (if r then .nx else .brk, ρ, μ) := by
  rw [if_ev (μ' := μ) (!r) (by simp [evE, evEs, evO, evC, evF, evSrc, evIn, evS, evSs, Option.bind_some, Option.map_some, Option.bind_none, Option.map_none, List.map_cons, List.map_nil, slot_c0, slot_cs, own_c0, own_cs, ownv_c0, ownv_cs, ownt_c0, tup_c0, tup_cs, view_int, view_str, view_bl, view_non, view_tup, view_lst, view_ty, view_fn, p_bin, p_neg, p_cmp, p_ix, p_len_tup, p_len_lst, p_abs, p_int, p_intb, p_isi, p_tuple_tup, p_tuple_lst, p_max, p_min, b_add_int, b_sub_int, c_lt, c_le, c_gt, c_ge, c_eq, c_ne, ix_tup, ix_lst, at0, at1, at2, at3, at4, at5, eq_int, eq_str, eq_bl, truD, set_c0, set_cs, setS_c, isi_tuple_tup, isi_tuple_lst, isi_tuple_str, isi_tuple_int, isi_tuple_non, isi_tuple_bl, isi_str_str, isi_str_tup, isi_str_int, isi_str_non, isi_str_lst, isi_str_bl, if_true_, if_false_, h])]
  cases r <;> simp [nil_ev, brk_ev]
theorem cond_ev {Γ : Env2} {c a b : IE} (t : Bool) (hc : evE Γ c ρ μ = some (.bl t, μ')) : evE Γ (.cond c a b) ρ μ = if t then evE Γ a ρ μ' else evE Γ b ρ μ' := by
  simp only [evE, hc, Option.bind_some, view_bl, truD]
theorem unp_ev {Γ : Env2} {e : IE} {g : Tg} {d : D} {ρ' : Slots} (he : evE Γ e ρ μ = some (d, μ')) (ha : asgT g d ρ = some ρ') : evS Γ (.unp g e) ρ μ = some (.nx, ρ', μ') := by
  simp only [evS, he, Option.bind_some, ha, Option.map_some]
theorem B_ok (R : Rg p ρ) (G : SG p z N c f g lim KS cs μ) (bz : z < 300) (ne : KS ≠ []) : Nx p (z + 1) cs (evSs Γ0 sB ρ μ) ∨ Bk cs (evSs Γ0 sB ρ μ) := by
  have l10 := R.lt (i := 10) (by decide)
  have bN := G.bN
  have bK := G.bK
  have bc := G.bc
  have p0 := G.p0
  obtain ⟨j, K, μ1, e1, st, hK⟩ := pick R G bz ne
  have G1 := G.stir st
  have s1 := set_ev (i := 10) e1 l10
  have R1 := R.set (i := 10) (by decide) (s := .val (.int (j : Int)))
  have v10 : slotD (ρ.set 10 (.val (.int (j : Int)))) 10 = some (.int (j : Int)) := slot_on l10
  generalize ρ.set 10 (.val (.int (j : Int))) = ρ1 at s1 R1 v10
  obtain ⟨r, f', g', lim', q1, qs, qn⟩ := rowed (k := 55) (k' := 56) (z := z) G1.inv (by omega) (by omega) (G1.at_ hK)
  obtain ⟨μ2, e2, ch2, N2⟩ := qn (p + 5) (p + 3) (p + 4) μ1 (by omega) G1.net
  have e2 : run fs 59 22 [.ref (p + 5), K.e 1, .str "plain"] μ1 = some (.bl r, μ2) := e2
  have f2 : ∀ i, i < p + 3 ∨ p + 4 < i → μ2[i]? = μ1[i]? := fun i hi => ch2.2 i (by simp; omega)
  have m1 := ix_mine R1 G1.mine v10 hK
  have l11 := R1.lt (i := 11) (by decide)
  have s2 : evS Γ0 (.set 11 (.call "_law_limit" 22 (.cons (.var 4) (.cons (.prim .ix (.cons (.var 5) (.cons (.var 10) .nil))) (.cons (.lit (.str "plain")) .nil))))) ρ1 μ1 = some (.nx, ρ1.set 11 (.val (.bl r)), μ2) :=
    set_ev (by
      generalize IE.prim .ix (.cons (.var 5) (.cons (.var 10) .nil)) = ie at m1
      simp [evE, evEs, evO, evC, evF, evSrc, evIn, evS, evSs, Option.bind_some, Option.map_some, Option.bind_none, Option.map_none, List.map_cons, List.map_nil, slot_c0, slot_cs, own_c0, own_cs, ownv_c0, ownv_cs, ownt_c0, tup_c0, tup_cs, view_int, view_str, view_bl, view_non, view_tup, view_lst, view_ty, view_fn, p_bin, p_neg, p_cmp, p_ix, p_len_tup, p_len_lst, p_abs, p_int, p_intb, p_isi, p_tuple_tup, p_tuple_lst, p_max, p_min, b_add_int, b_sub_int, c_lt, c_le, c_gt, c_ge, c_eq, c_ne, ix_tup, ix_lst, at0, at1, at2, at3, at4, at5, eq_int, eq_str, eq_bl, truD, set_c0, set_cs, setS_c, isi_tuple_tup, isi_tuple_lst, isi_tuple_str, isi_tuple_int, isi_tuple_non, isi_tuple_bl, isi_str_str, isi_str_tup, isi_str_int, isi_str_non, isi_str_lst, isi_str_bl, if_true_, if_false_, R1.r4, m1, Γf, e2]) l11
  have R2 := R1.set (i := 11) (by decide) (s := .val (.bl r))
  have v10b : slotD (ρ1.set 11 (.val (.bl r))) 10 = some (.int (j : Int)) := by rw [slot_off (by decide)]; exact v10
  have v11 : slotD (ρ1.set 11 (.val (.bl r))) 11 = some (.bl r) := slot_on l11
  generalize ρ1.set 11 (.val (.bl r)) = ρ2 at s2 R2 v10b v11
  have S2 : SolS z N p (p + 1) (p + 2) f lim μ2 := G1.sol.frame (f2 _ (by omega)) (f2 _ (by omega)) (f2 _ (by omega))
  obtain ⟨μ3, e3, ch3, S3⟩ := qs p (p + 1) (p + 2) μ2 S2
  have e3 : run fs 59 7 [.ref p, K.e 0] μ2 = some (if r then row_ (K.e 0) else .non, μ3) := e3
  have f3 : ∀ i, i < p + 1 ∨ p + 2 < i → μ3[i]? = μ2[i]? := fun i hi => ch3.2 i (by simp; omega)
  have i2 : μ2[p + 7]? = some (.lst (KS.map (Kd.e 0))) := (f2 _ (by omega)).trans G1.its
  have m2 := ix_its R2 i2 v10b hK
  have l12 := R2.lt (i := 12) (by decide)
  have s3 : evS Γ0 (.set 12 (.mcall 0 "row_of" 7 (.var 3) (.cons (.prim .ix (.cons (.var 6) (.cons (.var 10) .nil))) .nil))) ρ2 μ2 = some (.nx, ρ2.set 12 (.val (if r then row_ (K.e 0) else .non)), μ3) :=
    set_ev (by
      rw [mc_ev R2 S2 (fun _ _ => no_row)]
      generalize IE.prim .ix (.cons (.var 6) (.cons (.var 10) .nil)) = ie at m2
      simp [evE, evEs, evO, evC, evF, evSrc, evIn, evS, evSs, Option.bind_some, Option.map_some, Option.bind_none, Option.map_none, List.map_cons, List.map_nil, slot_c0, slot_cs, own_c0, own_cs, ownv_c0, ownv_cs, ownt_c0, tup_c0, tup_cs, view_int, view_str, view_bl, view_non, view_tup, view_lst, view_ty, view_fn, p_bin, p_neg, p_cmp, p_ix, p_len_tup, p_len_lst, p_abs, p_int, p_intb, p_isi, p_tuple_tup, p_tuple_lst, p_max, p_min, b_add_int, b_sub_int, c_lt, c_le, c_gt, c_ge, c_eq, c_ne, ix_tup, ix_lst, at0, at1, at2, at3, at4, at5, eq_int, eq_str, eq_bl, truD, set_c0, set_cs, setS_c, isi_tuple_tup, isi_tuple_lst, isi_tuple_str, isi_tuple_int, isi_tuple_non, isi_tuple_bl, isi_str_str, isi_str_tup, isi_str_int, isi_str_non, isi_str_lst, isi_str_bl, if_true_, if_false_, m2, e3]) l12
  have R3 := R2.set (i := 12) (by decide) (s := .val (if r then row_ (K.e 0) else .non))
  have v12 : slotD (ρ2.set 12 (.val (if r then row_ (K.e 0) else .non))) 12 = some (if r then row_ (K.e 0) else .non) := slot_on l12
  have v10c : slotD (ρ2.set 12 (.val (if r then row_ (K.e 0) else .non))) 10 = some (.int (j : Int)) := by rw [slot_off (by decide)]; exact v10b
  have v11c : slotD (ρ2.set 12 (.val (if r then row_ (K.e 0) else .non))) 11 = some (.bl r) := by rw [slot_off (by decide)]; exact v11
  generalize ρ2.set 12 (.val (if r then row_ (K.e 0) else .non)) = ρ3 at s3 R3 v12 v10c v11c
  have s4 : evS Γ0 (.ifs (.prim (.cmp .Eq) (.cons (.prim (.cmp .Is) (.cons (.var 12) (.cons (.lit .non) .nil))) (.cons (.var 11) .nil))) (.cons (.ret (.lit (.bl false))) .nil) .nil) ρ3 μ3 = some (.nx, ρ3, μ3) := by
    rw [if_ev (μ' := μ3) false (by cases r <;> simp [evE, evEs, evO, evC, evF, evSrc, evIn, evS, evSs, Option.bind_some, Option.map_some, Option.bind_none, Option.map_none, List.map_cons, List.map_nil, slot_c0, slot_cs, own_c0, own_cs, ownv_c0, ownv_cs, ownt_c0, tup_c0, tup_cs, view_int, view_str, view_bl, view_non, view_tup, view_lst, view_ty, view_fn, p_bin, p_neg, p_cmp, p_ix, p_len_tup, p_len_lst, p_abs, p_int, p_intb, p_isi, p_tuple_tup, p_tuple_lst, p_max, p_min, b_add_int, b_sub_int, c_lt, c_le, c_gt, c_ge, c_eq, c_ne, ix_tup, ix_lst, at0, at1, at2, at3, at4, at5, eq_int, eq_str, eq_bl, truD, set_c0, set_cs, setS_c, isi_tuple_tup, isi_tuple_lst, isi_tuple_str, isi_tuple_int, isi_tuple_non, isi_tuple_bl, isi_str_str, isi_str_tup, isi_str_int, isi_str_non, isi_str_lst, isi_str_bl, if_true_, if_false_, v12, v11c, cmpD, row_])]
    simp [nil_ev]
  have s5 := out_ev (Γ := Γ0) (μ := μ3) v11c
  have b3 : BagAt μ3 0 cs := bag_frame G1.bag ((f3 _ (by omega)).trans (f2 _ (by omega)))
  cases r with
  | false =>
    exact .inr ⟨ρ3, μ3, by unfold sB; rw [seq s1, seq s2, seq s3, seq s4, seqb s5], R3.len, R3.r1, b3⟩
  | true =>
    obtain ⟨A2, hA2, I'⟩ := q1 rfl
    have N2 := N2 rfl
    have S3 := S3 rfl
    have mm : μ3[p + 6]? = some (.lst (KS.map (Kd.e 1))) := (f3 _ (by omega)).trans ((f2 _ (by omega)).trans G1.mine)
    have ii : μ3[p + 7]? = some (.lst (KS.map (Kd.e 0))) := (f3 _ (by omega)).trans i2
    have m3 := ix_mine R3 mm v10c hK
    have s6 : evS Γ0 (.app (.var 5) (.tup (.cons (.lit (.str "row")) (.cons (.prim .ix (.cons (.var 5) (.cons (.var 10) .nil))) .nil)))) ρ3 μ3 = some (.nx, ρ3, μ3.set (p + 6) (.lst (KS.map (Kd.e 1) ++ [A2.e 1]))) := by
      rw [← hA2 1]
      refine app_ev (var_ev R3.r5) mm ?_ mm (by simp; omega)
      generalize IE.prim .ix (.cons (.var 5) (.cons (.var 10) .nil)) = ie at m3
      simp [evE, evEs, evO, evC, evF, evSrc, evIn, evS, evSs, Option.bind_some, Option.map_some, Option.bind_none, Option.map_none, List.map_cons, List.map_nil, slot_c0, slot_cs, own_c0, own_cs, ownv_c0, ownv_cs, ownt_c0, tup_c0, tup_cs, view_int, view_str, view_bl, view_non, view_tup, view_lst, view_ty, view_fn, p_bin, p_neg, p_cmp, p_ix, p_len_tup, p_len_lst, p_abs, p_int, p_intb, p_isi, p_tuple_tup, p_tuple_lst, p_max, p_min, b_add_int, b_sub_int, c_lt, c_le, c_gt, c_ge, c_eq, c_ne, ix_tup, ix_lst, at0, at1, at2, at3, at4, at5, eq_int, eq_str, eq_bl, truD, set_c0, set_cs, setS_c, isi_tuple_tup, isi_tuple_lst, isi_tuple_str, isi_tuple_int, isi_tuple_non, isi_tuple_bl, isi_str_str, isi_str_tup, isi_str_int, isi_str_non, isi_str_lst, isi_str_bl, if_true_, if_false_, m3, le_size, row_]
    generalize hμ4 : μ3.set (p + 6) (.lst (KS.map (Kd.e 1) ++ [A2.e 1])) = μ4 at s6
    have f4 : ∀ i, i ≠ p + 6 → μ4[i]? = μ3[i]? := fun i hi => by rw [← hμ4]; exact set_off (Ne.symm hi)
    have m4 : μ4[p + 6]? = some (.lst (KS.map (Kd.e 1) ++ [A2.e 1])) := by rw [← hμ4]; exact set_at mm
    have i4 : μ4[p + 7]? = some (.lst (KS.map (Kd.e 0))) := (f4 _ (by omega)).trans ii
    have s7 : evS Γ0 (.app (.var 6) (.var 12)) ρ3 μ4 = some (.nx, ρ3, μ4.set (p + 7) (.lst (KS.map (Kd.e 0) ++ [A2.e 0]))) := by
      rw [← hA2 0]
      exact app_ev (var_ev R3.r6) i4 (var_ev v12) i4 (by simp; omega)
    generalize hμ5 : μ4.set (p + 7) (.lst (KS.map (Kd.e 0) ++ [A2.e 0])) = μ5 at s7
    have f5 : ∀ i, i ≠ p + 7 → μ5[i]? = μ4[i]? := fun i hi => by rw [← hμ5]; exact set_off (Ne.symm hi)
    have i5 : μ5[p + 7]? = some (.lst (KS.map (Kd.e 0) ++ [A2.e 0])) := by rw [← hμ5]; exact set_at i4
    have f53 : ∀ i, i ≠ p + 6 → i ≠ p + 7 → μ5[i]? = μ3[i]? := fun i h1 h2 => (f5 i h2).trans (f4 i h1)
    refine .inl ⟨ρ3, μ5, by unfold sB; rw [seq s1, seq s2, seq s3, seq s4, seq s5, seq s6, seq s7, nil_ev], R3, N, c + 1, f', g', lim', KS ++ [A2], p0, G.ai, ?_, ?_, ?_, ?_, ?_, I', ?_, ?_, ?_⟩
    · exact bag_frame b3 (f53 _ (by omega) (by omega))
    · exact S3.frame (f53 _ (by omega) (by omega)) (f53 _ (by omega) (by omega)) (f53 _ (by omega) (by omega))
    · have f23 : ∀ i, p + 2 < i → i < p + 6 → μ5[i]? = μ2[i]? := fun i h1 h2 => (f53 i (by omega) (by omega)).trans (f3 i (by omega))
      exact N2.frame (f23 _ (by omega) (by omega)) (f23 _ (by omega) (by omega)) (f23 _ (by omega) (by omega))
    · rw [map_snoc]; exact (f5 _ (by omega)).trans m4
    · rw [map_snoc]; exact i5
    · omega
    · omega
    · simp; omega
/-- the net and then the solver -/
theorem both_ok {k1 fd1 k2 fd2 : Nat} {xs1 xs2 : List D} (G : SG p z N c f g lim KS cs μ) (B : Both z N c f g lim KS k1 fd1 xs1 k2 fd2 xs2) :
    ∃ r μ1 μ2, run fs k2 fd2 (.ref (p + 5) :: xs2) μ = some (.bl r, μ1) ∧ SolS z N p (p + 1) (p + 2) f lim μ1 ∧ μ1[p + 6]? = some (.lst (KS.map (Kd.e 1))) ∧ μ1[p + 7]? = some (.lst (KS.map (Kd.e 0))) ∧
      run fs k1 fd1 (.ref p :: xs1) μ1 = some (.bl r, μ2) ∧ BagAt μ2 0 cs ∧ (r = true → SGz p (z + 1) cs μ2) := by
  obtain ⟨r, f', g', lim', q1, qs, qn⟩ := B
  have p0 := G.p0
  obtain ⟨μ1, e1, ch1, N1⟩ := qn (p + 5) (p + 3) (p + 4) μ (by omega) G.net
  have f1 : ∀ i, i < p + 3 ∨ p + 4 < i → μ1[i]? = μ[i]? := fun i hi => ch1.2 i (by simp; omega)
  have S1 : SolS z N p (p + 1) (p + 2) f lim μ1 := G.sol.frame (f1 _ (by omega)) (f1 _ (by omega)) (f1 _ (by omega))
  obtain ⟨μ2, e2, ch2, S2⟩ := qs p (p + 1) (p + 2) μ1 S1
  have f2 : ∀ i, i < p + 1 ∨ p + 2 < i → μ2[i]? = μ1[i]? := fun i hi => ch2.2 i (by simp; omega)
  have b2 : BagAt μ2 0 cs := bag_frame G.bag ((f2 _ (by omega)).trans (f1 _ (by omega)))
  refine ⟨r, μ1, μ2, e1, S1, (f1 _ (by omega)).trans G.mine, (f1 _ (by omega)).trans G.its, e2, b2, fun hr => ⟨N, c + 1, f', g', lim', KS, p0, G.ai, b2, S2 hr, ?_, ?_, ?_, q1 hr, ?_, ?_, ?_⟩⟩
  · exact (N1 hr).frame (f2 _ (by omega)) (f2 _ (by omega)) (f2 _ (by omega))
  · exact (f2 _ (by omega)).trans ((f1 _ (by omega)).trans G.mine)
  · exact (f2 _ (by omega)).trans ((f1 _ (by omega)).trans G.its)
  · have := G.bN; omega
  · have := G.bc; omega
  · have := G.bK; omega
theorem g18 : fs[18]? = some ⟨2, 2, (.cons (.ret (.andd (.prim (.cmp .Eq) (.cons (.prim .repr (.cons (.var 0) .nil)) (.cons (.prim .repr (.cons (.var 1) .nil)) .nil))) (.prim (.cmp .Eq) (.cons (.var 0) (.cons (.var 1) .nil))))) .nil)⟩ := rfl
theorem like_bl {r : Bool} : run fs 59 18 [.bl r, .bl r] μ = some (.bl true, μ) := alike_at (k := 58) g18 rfl (by simp [D.dep]) (by simp [D.wgt])
/-- both have said the same: on, or out -/
theorem tail_ok {r : Bool} {e : IE} (R : Rg p ρ) (h11 : slotD ρ 11 = some (.bl r)) (he : evE Γ0 e ρ μ = some (.bl r, μ')) (b : BagAt μ' 0 cs) (g : r = true → SGz p (z + 1) cs μ') :
    Nx p (z + 1) cs (evSs Γ0 (.cons (.ifs (.nott (.call "_law_alike" 18 (.cons e (.cons (.var 11) .nil)))) (.cons (.ret (.lit (.bl false))) .nil) .nil) (.cons (.ifs (.nott (.var 11)) (.cons .brk .nil) .nil) .nil)) ρ μ) ∨
      Bk cs (evSs Γ0 (.cons (.ifs (.nott (.call "_law_alike" 18 (.cons e (.cons (.var 11) .nil)))) (.cons (.ret (.lit (.bl false))) .nil) .nil) (.cons (.ifs (.nott (.var 11)) (.cons .brk .nil) .nil) .nil)) ρ μ) := by
  have s1 : evS Γ0 (.ifs (.nott (.call "_law_alike" 18 (.cons e (.cons (.var 11) .nil)))) (.cons (.ret (.lit (.bl false))) .nil) .nil) ρ μ = some (.nx, ρ, μ') := by
    rw [if_ev (μ' := μ') false (by simp [evE, evEs, evO, evC, evF, evSrc, evIn, evS, evSs, Option.bind_some, Option.map_some, Option.bind_none, Option.map_none, List.map_cons, List.map_nil, slot_c0, slot_cs, own_c0, own_cs, ownv_c0, ownv_cs, ownt_c0, tup_c0, tup_cs, view_int, view_str, view_bl, view_non, view_tup, view_lst, view_ty, view_fn, p_bin, p_neg, p_cmp, p_ix, p_len_tup, p_len_lst, p_abs, p_int, p_intb, p_isi, p_tuple_tup, p_tuple_lst, p_max, p_min, b_add_int, b_sub_int, c_lt, c_le, c_gt, c_ge, c_eq, c_ne, ix_tup, ix_lst, at0, at1, at2, at3, at4, at5, eq_int, eq_str, eq_bl, truD, set_c0, set_cs, setS_c, isi_tuple_tup, isi_tuple_lst, isi_tuple_str, isi_tuple_int, isi_tuple_non, isi_tuple_bl, isi_str_str, isi_str_tup, isi_str_int, isi_str_non, isi_str_lst, isi_str_bl, if_true_, if_false_, he, h11, Γf, like_bl])]
    simp [nil_ev]
  have s2 := out_ev (Γ := Γ0) (μ := μ') h11
  rw [seq s1]
  cases r with
  | false => exact .inr ⟨ρ, μ', by rw [seqb s2], R.len, R.r1, b⟩
  | true => exact .inl ⟨ρ, μ', by rw [seq s2, nil_ev], R, g rfl⟩
theorem D_ok (R : Rg p ρ) (G : SG p z N c f g lim KS cs μ) (bz : z < 300) (ne : KS ≠ []) : Nx p (z + 1) cs (evSs Γ0 sD ρ μ) ∨ Bk cs (evSs Γ0 sD ρ μ) := by
  have bc := G.bc
  obtain ⟨j, K, μ1, e1, st, hK⟩ := pick R G bz ne
  have G1 := G.stir st
  obtain ⟨d, μ2, e2, st2, hd⟩ := some_at (fs := fs) (t := 16) (s := 17) (k := 57) (ds := [.str "any", .str "plain", .str "ordered"]) rfl rfl G1.bag G1.ai (by simp) (by simp)
  obtain ⟨w, rfl⟩ := w_of3 hd
  have G2 := G1.stir st2
  have s1 : evS Γ0 (.par 10 9 (.v (.call "_law_take" 16 (.cons (.var 1) (.cons (.prim .len (.cons (.var 5) .nil)) .nil)))) (.v (.call "_law_some" 17 (.cons (.var 1) (.cons (.frz (.disp (.cons (.lit (.str "any")) (.cons (.lit (.str "plain")) (.cons (.lit (.str "ordered")) .nil))))) .nil))))) ρ μ =
      some (.nx, (ρ.set 10 (.val (.int (j : Int)))).set 9 (.val (.str w.s)), μ2) := by
    generalize IE.call "_law_take" 16 (.cons (.var 1) (.cons (.prim .len (.cons (.var 5) .nil)) .nil)) = ie at e1
    simp [evE, evEs, evO, evC, evF, evSrc, evIn, evS, evSs, Option.bind_some, Option.map_some, Option.bind_none, Option.map_none, List.map_cons, List.map_nil, slot_c0, slot_cs, own_c0, own_cs, ownv_c0, ownv_cs, ownt_c0, tup_c0, tup_cs, view_int, view_str, view_bl, view_non, view_tup, view_lst, view_ty, view_fn, p_bin, p_neg, p_cmp, p_ix, p_len_tup, p_len_lst, p_abs, p_int, p_intb, p_isi, p_tuple_tup, p_tuple_lst, p_max, p_min, b_add_int, b_sub_int, c_lt, c_le, c_gt, c_ge, c_eq, c_ne, ix_tup, ix_lst, at0, at1, at2, at3, at4, at5, eq_int, eq_str, eq_bl, truD, set_c0, set_cs, setS_c, isi_tuple_tup, isi_tuple_lst, isi_tuple_str, isi_tuple_int, isi_tuple_non, isi_tuple_bl, isi_str_str, isi_str_tup, isi_str_int, isi_str_non, isi_str_lst, isi_str_bl, if_true_, if_false_, e1, R.r1, le_size, Γf, e2, R.len]
  have R1 := (R.set (i := 10) (by decide) (s := .val (.int (j : Int)))).set (i := 9) (by decide) (s := .val (.str w.s))
  have v9 : slotD ((ρ.set 10 (.val (.int (j : Int)))).set 9 (.val (.str w.s))) 9 = some (.str w.s) := slot_on (by simp [R.len])
  have v10 : slotD ((ρ.set 10 (.val (.int (j : Int)))).set 9 (.val (.str w.s))) 10 = some (.int (j : Int)) := by rw [slot_off (by decide)]; exact slot_on (by simp [R.len])
  generalize (ρ.set 10 (.val (.int (j : Int)))).set 9 (.val (.str w.s)) = ρ1 at s1 R1 v9 v10
  obtain ⟨r, μ3, μ4, e3, S3, m3, i3, e4, b4, g4⟩ := both_ok G2 (lmt (k := 56) (k' := 56) (z := z) G2.inv (by omega) (by omega) (.inl (G2.at_ hK)) w)
  have e3 : run fs 59 22 [.ref (p + 5), K.e 1, .str w.s] μ2 = some (.bl r, μ3) := e3
  have e4 : run fs 59 8 [.ref p, K.e 0, .str w.s] μ3 = some (.bl r, μ4) := e4
  have l11 := R1.lt (i := 11) (by decide)
  have x1 := ix_mine R1 G2.mine v10 hK
  have s2 : evS Γ0 (.set 11 (.call "_law_limit" 22 (.cons (.var 4) (.cons (.prim .ix (.cons (.var 5) (.cons (.var 10) .nil))) (.cons (.var 9) .nil))))) ρ1 μ2 = some (.nx, ρ1.set 11 (.val (.bl r)), μ3) :=
    set_ev (by
      generalize IE.prim .ix (.cons (.var 5) (.cons (.var 10) .nil)) = ie at x1
      simp [evE, evEs, evO, evC, evF, evSrc, evIn, evS, evSs, Option.bind_some, Option.map_some, Option.bind_none, Option.map_none, List.map_cons, List.map_nil, slot_c0, slot_cs, own_c0, own_cs, ownv_c0, ownv_cs, ownt_c0, tup_c0, tup_cs, view_int, view_str, view_bl, view_non, view_tup, view_lst, view_ty, view_fn, p_bin, p_neg, p_cmp, p_ix, p_len_tup, p_len_lst, p_abs, p_int, p_intb, p_isi, p_tuple_tup, p_tuple_lst, p_max, p_min, b_add_int, b_sub_int, c_lt, c_le, c_gt, c_ge, c_eq, c_ne, ix_tup, ix_lst, at0, at1, at2, at3, at4, at5, eq_int, eq_str, eq_bl, truD, set_c0, set_cs, setS_c, isi_tuple_tup, isi_tuple_lst, isi_tuple_str, isi_tuple_int, isi_tuple_non, isi_tuple_bl, isi_str_str, isi_str_tup, isi_str_int, isi_str_non, isi_str_lst, isi_str_bl, if_true_, if_false_, R1.r4, x1, v9, Γf, e3]) l11
  have R2 := R1.set (i := 11) (by decide) (s := .val (.bl r))
  have v9b : slotD (ρ1.set 11 (.val (.bl r))) 9 = some (.str w.s) := by rw [slot_off (by decide)]; exact v9
  have v10b : slotD (ρ1.set 11 (.val (.bl r))) 10 = some (.int (j : Int)) := by rw [slot_off (by decide)]; exact v10
  have v11 : slotD (ρ1.set 11 (.val (.bl r))) 11 = some (.bl r) := slot_on l11
  generalize ρ1.set 11 (.val (.bl r)) = ρ2 at s2 R2 v9b v10b v11
  have x2 := ix_its R2 i3 v10b hK
  unfold sD
  rw [seq s1, seq s2]
  refine tail_ok R2 v11 ?_ b4 g4
  rw [mc_ev R2 S3 (fun _ _ => no_limit)]
  generalize IE.prim .ix (.cons (.var 6) (.cons (.var 10) .nil)) = ie at x2
  simp [evE, evEs, evO, evC, evF, evSrc, evIn, evS, evSs, Option.bind_some, Option.map_some, Option.bind_none, Option.map_none, List.map_cons, List.map_nil, slot_c0, slot_cs, own_c0, own_cs, ownv_c0, ownv_cs, ownt_c0, tup_c0, tup_cs, view_int, view_str, view_bl, view_non, view_tup, view_lst, view_ty, view_fn, p_bin, p_neg, p_cmp, p_ix, p_len_tup, p_len_lst, p_abs, p_int, p_intb, p_isi, p_tuple_tup, p_tuple_lst, p_max, p_min, b_add_int, b_sub_int, c_lt, c_le, c_gt, c_ge, c_eq, c_ne, ix_tup, ix_lst, at0, at1, at2, at3, at4, at5, eq_int, eq_str, eq_bl, truD, set_c0, set_cs, setS_c, isi_tuple_tup, isi_tuple_lst, isi_tuple_str, isi_tuple_int, isi_tuple_non, isi_tuple_bl, isi_str_str, isi_str_tup, isi_str_int, isi_str_non, isi_str_lst, isi_str_bl, if_true_, if_false_, x2, v9b, e4]
theorem C_ok (R : Rg p ρ) (G : SG p z N c f g lim KS cs μ) (bz : z < 300) (ne : KS ≠ []) : Nx p (z + 1) cs (evSs Γ0 sC ρ μ) ∨ Bk cs (evSs Γ0 sC ρ μ) := by
  have bc := G.bc
  obtain ⟨j, K, μ1, e1, st, hK⟩ := pick R G bz ne
  have G1 := G.stir st
  obtain ⟨n, L, μ2, e2, st2, hL⟩ := pick R G1 bz ne
  have G2 := G1.stir st2
  have s1 : evS Γ0 (.par 10 13 (.v (.call "_law_take" 16 (.cons (.var 1) (.cons (.prim .len (.cons (.var 5) .nil)) .nil)))) (.v (.call "_law_take" 16 (.cons (.var 1) (.cons (.prim .len (.cons (.var 5) .nil)) .nil))))) ρ μ =
      some (.nx, (ρ.set 10 (.val (.int (j : Int)))).set 13 (.val (.int (n : Int))), μ2) := by
    generalize IE.call "_law_take" 16 (.cons (.var 1) (.cons (.prim .len (.cons (.var 5) .nil)) .nil)) = ie at e1 e2
    simp [evE, evEs, evO, evC, evF, evSrc, evIn, evS, evSs, Option.bind_some, Option.map_some, Option.bind_none, Option.map_none, List.map_cons, List.map_nil, slot_c0, slot_cs, own_c0, own_cs, ownv_c0, ownv_cs, ownt_c0, tup_c0, tup_cs, view_int, view_str, view_bl, view_non, view_tup, view_lst, view_ty, view_fn, p_bin, p_neg, p_cmp, p_ix, p_len_tup, p_len_lst, p_abs, p_int, p_intb, p_isi, p_tuple_tup, p_tuple_lst, p_max, p_min, b_add_int, b_sub_int, c_lt, c_le, c_gt, c_ge, c_eq, c_ne, ix_tup, ix_lst, at0, at1, at2, at3, at4, at5, eq_int, eq_str, eq_bl, truD, set_c0, set_cs, setS_c, isi_tuple_tup, isi_tuple_lst, isi_tuple_str, isi_tuple_int, isi_tuple_non, isi_tuple_bl, isi_str_str, isi_str_tup, isi_str_int, isi_str_non, isi_str_lst, isi_str_bl, if_true_, if_false_, e1, e2, R.len]
  have R1 := (R.set (i := 10) (by decide) (s := .val (.int (j : Int)))).set (i := 13) (by decide) (s := .val (.int (n : Int)))
  have v13 : slotD ((ρ.set 10 (.val (.int (j : Int)))).set 13 (.val (.int (n : Int)))) 13 = some (.int (n : Int)) := slot_on (by simp [R.len])
  have v10 : slotD ((ρ.set 10 (.val (.int (j : Int)))).set 13 (.val (.int (n : Int)))) 10 = some (.int (j : Int)) := by rw [slot_off (by decide)]; exact slot_on (by simp [R.len])
  generalize (ρ.set 10 (.val (.int (j : Int)))).set 13 (.val (.int (n : Int))) = ρ1 at s1 R1 v13 v10
  obtain ⟨d, μ3, e3, st3, hd⟩ := some_at (fs := fs) (t := 16) (s := 17) (k := 57) (ds := [.non, .non, .str "number", .str "text", .str "truth"]) rfl rfl G2.bag G2.ai (by simp) (by simp)
  have G3 := G2.stir st3
  have l14 := R1.lt (i := 14) (by decide)
  have s2 : evS Γ0 (.set 14 (.call "_law_some" 17 (.cons (.var 1) (.cons (.frz (.disp (.cons (.lit .non) (.cons (.lit .non) (.cons (.lit (.str "number")) (.cons (.lit (.str "text")) (.cons (.lit (.str "truth")) .nil))))))) .nil)))) ρ1 μ2 = some (.nx, ρ1.set 14 (.val d), μ3) :=
    set_ev (by simp [evE, evEs, evO, evC, evF, evSrc, evIn, evS, evSs, Option.bind_some, Option.map_some, Option.bind_none, Option.map_none, List.map_cons, List.map_nil, slot_c0, slot_cs, own_c0, own_cs, ownv_c0, ownv_cs, ownt_c0, tup_c0, tup_cs, view_int, view_str, view_bl, view_non, view_tup, view_lst, view_ty, view_fn, p_bin, p_neg, p_cmp, p_ix, p_len_tup, p_len_lst, p_abs, p_int, p_intb, p_isi, p_tuple_tup, p_tuple_lst, p_max, p_min, b_add_int, b_sub_int, c_lt, c_le, c_gt, c_ge, c_eq, c_ne, ix_tup, ix_lst, at0, at1, at2, at3, at4, at5, eq_int, eq_str, eq_bl, truD, set_c0, set_cs, setS_c, isi_tuple_tup, isi_tuple_lst, isi_tuple_str, isi_tuple_int, isi_tuple_non, isi_tuple_bl, isi_str_str, isi_str_tup, isi_str_int, isi_str_non, isi_str_lst, isi_str_bl, if_true_, if_false_, R1.r1, le_size, Γf, e3]) l14
  have R2 := R1.set (i := 14) (by decide) (s := .val d)
  have v13b : slotD (ρ1.set 14 (.val d)) 13 = some (.int (n : Int)) := by rw [slot_off (by decide)]; exact v13
  have v10b : slotD (ρ1.set 14 (.val d)) 10 = some (.int (j : Int)) := by rw [slot_off (by decide)]; exact v10
  have v14 : slotD (ρ1.set 14 (.val d)) 14 = some d := slot_on l14
  generalize ρ1.set 14 (.val d) = ρ2 at s2 R2 v13b v10b v14
  have y1 := ix_mine R2 G3.mine v13b hL
  have y2 := ix_its R2 G3.its v13b hL
  obtain ⟨B, hB, s3⟩ : ∃ B, Ent KS B ∧ evS Γ0 (.unp (.tp (.cons (.nm 15) (.cons (.nm 16) .nil))) (.cond (.prim (.cmp .Is) (.cons (.var 14) (.cons (.lit .non) .nil))) (.tup (.cons (.prim .ix (.cons (.var 5) (.cons (.var 13) .nil))) (.cons (.prim .ix (.cons (.var 6) (.cons (.var 13) .nil))) .nil))) (.tup (.cons (.var 14) (.cons (.var 14) .nil))))) ρ2 μ3 =
      some (.nx, (ρ2.set 15 (.val (B.e 1))).set 16 (.val (B.e 0)), μ3) := by
    have isn : d = .non ∨ ∃ s : Bs, d = .str s.s := by
      simp only [List.mem_cons, List.not_mem_nil, or_false] at hd
      rcases hd with h | h | h | h | h
      · exact .inl h
      · exact .inl h
      · exact .inr ⟨.nu, h⟩
      · exact .inr ⟨.te, h⟩
      · exact .inr ⟨.tr, h⟩
    rcases isn with rfl | ⟨s, rfl⟩
    · refine ⟨L, .inl (G3.at_ hL), ?_⟩
      generalize IE.prim .ix (.cons (.var 5) (.cons (.var 13) .nil)) = ie1 at y1
      generalize IE.prim .ix (.cons (.var 6) (.cons (.var 13) .nil)) = ie2 at y2
      refine unp_ev (d := .tup [L.e 1, L.e 0]) ?_ (by simp [asgT, asgTs, R2.len])
      rw [cond_ev (μ' := μ3) true (by simp [evE, evEs, evO, evC, evF, evSrc, evIn, evS, evSs, Option.bind_some, Option.map_some, Option.bind_none, Option.map_none, List.map_cons, List.map_nil, slot_c0, slot_cs, own_c0, own_cs, ownv_c0, ownv_cs, ownt_c0, tup_c0, tup_cs, view_int, view_str, view_bl, view_non, view_tup, view_lst, view_ty, view_fn, p_bin, p_neg, p_cmp, p_ix, p_len_tup, p_len_lst, p_abs, p_int, p_intb, p_isi, p_tuple_tup, p_tuple_lst, p_max, p_min, b_add_int, b_sub_int, c_lt, c_le, c_gt, c_ge, c_eq, c_ne, ix_tup, ix_lst, at0, at1, at2, at3, at4, at5, eq_int, eq_str, eq_bl, truD, set_c0, set_cs, setS_c, isi_tuple_tup, isi_tuple_lst, isi_tuple_str, isi_tuple_int, isi_tuple_non, isi_tuple_bl, isi_str_str, isi_str_tup, isi_str_int, isi_str_non, isi_str_lst, isi_str_bl, if_true_, if_false_, v14, cmpD])]
      simp [evE, evEs, evO, evC, evF, evSrc, evIn, evS, evSs, Option.bind_some, Option.map_some, Option.bind_none, Option.map_none, List.map_cons, List.map_nil, slot_c0, slot_cs, own_c0, own_cs, ownv_c0, ownv_cs, ownt_c0, tup_c0, tup_cs, view_int, view_str, view_bl, view_non, view_tup, view_lst, view_ty, view_fn, p_bin, p_neg, p_cmp, p_ix, p_len_tup, p_len_lst, p_abs, p_int, p_intb, p_isi, p_tuple_tup, p_tuple_lst, p_max, p_min, b_add_int, b_sub_int, c_lt, c_le, c_gt, c_ge, c_eq, c_ne, ix_tup, ix_lst, at0, at1, at2, at3, at4, at5, eq_int, eq_str, eq_bl, truD, set_c0, set_cs, setS_c, isi_tuple_tup, isi_tuple_lst, isi_tuple_str, isi_tuple_int, isi_tuple_non, isi_tuple_bl, isi_str_str, isi_str_tup, isi_str_int, isi_str_non, isi_str_lst, isi_str_bl, if_true_, if_false_, y1, y2, le_size]
    · refine ⟨.b s, .inr ⟨s, rfl⟩, ?_⟩
      refine unp_ev (d := .tup [.str s.s, .str s.s]) ?_ (by simp [asgT, asgTs, R2.len, Kd.e])
      rw [cond_ev (μ' := μ3) false (by simp [evE, evEs, evO, evC, evF, evSrc, evIn, evS, evSs, Option.bind_some, Option.map_some, Option.bind_none, Option.map_none, List.map_cons, List.map_nil, slot_c0, slot_cs, own_c0, own_cs, ownv_c0, ownv_cs, ownt_c0, tup_c0, tup_cs, view_int, view_str, view_bl, view_non, view_tup, view_lst, view_ty, view_fn, p_bin, p_neg, p_cmp, p_ix, p_len_tup, p_len_lst, p_abs, p_int, p_intb, p_isi, p_tuple_tup, p_tuple_lst, p_max, p_min, b_add_int, b_sub_int, c_lt, c_le, c_gt, c_ge, c_eq, c_ne, ix_tup, ix_lst, at0, at1, at2, at3, at4, at5, eq_int, eq_str, eq_bl, truD, set_c0, set_cs, setS_c, isi_tuple_tup, isi_tuple_lst, isi_tuple_str, isi_tuple_int, isi_tuple_non, isi_tuple_bl, isi_str_str, isi_str_tup, isi_str_int, isi_str_non, isi_str_lst, isi_str_bl, if_true_, if_false_, v14, cmpD])]
      simp [evE, evEs, evO, evC, evF, evSrc, evIn, evS, evSs, Option.bind_some, Option.map_some, Option.bind_none, Option.map_none, List.map_cons, List.map_nil, slot_c0, slot_cs, own_c0, own_cs, ownv_c0, ownv_cs, ownt_c0, tup_c0, tup_cs, view_int, view_str, view_bl, view_non, view_tup, view_lst, view_ty, view_fn, p_bin, p_neg, p_cmp, p_ix, p_len_tup, p_len_lst, p_abs, p_int, p_intb, p_isi, p_tuple_tup, p_tuple_lst, p_max, p_min, b_add_int, b_sub_int, c_lt, c_le, c_gt, c_ge, c_eq, c_ne, ix_tup, ix_lst, at0, at1, at2, at3, at4, at5, eq_int, eq_str, eq_bl, truD, set_c0, set_cs, setS_c, isi_tuple_tup, isi_tuple_lst, isi_tuple_str, isi_tuple_int, isi_tuple_non, isi_tuple_bl, isi_str_str, isi_str_tup, isi_str_int, isi_str_non, isi_str_lst, isi_str_bl, if_true_, if_false_, v14, le_size]
  have R3 := (R2.set (i := 15) (by decide) (s := .val (B.e 1))).set (i := 16) (by decide) (s := .val (B.e 0))
  have v15 : slotD ((ρ2.set 15 (.val (B.e 1))).set 16 (.val (B.e 0))) 15 = some (B.e 1) := by rw [slot_off (by decide)]; exact slot_on (by simp [R2.len])
  have v16 : slotD ((ρ2.set 15 (.val (B.e 1))).set 16 (.val (B.e 0))) 16 = some (B.e 0) := slot_on (by simp [R2.len])
  have v10c : slotD ((ρ2.set 15 (.val (B.e 1))).set 16 (.val (B.e 0))) 10 = some (.int (j : Int)) := by rw [slot_off (by decide), slot_off (by decide)]; exact v10b
  generalize (ρ2.set 15 (.val (B.e 1))).set 16 (.val (B.e 0)) = ρ3 at s3 R3 v15 v16 v10c
  obtain ⟨r, μ4, μ5, e4, S4, m4, i4, e5, b5, g5⟩ := both_ok G3 (uni (k := 53) (k' := 54) (z := z) G3.inv (by omega) (by omega) (.inl (G3.at_ hK)) hB)
  have e4 : run fs 59 20 [.ref (p + 5), K.e 1, B.e 1] μ3 = some (.bl r, μ4) := e4
  have e5 : run fs 59 10 [.ref p, K.e 0, B.e 0] μ4 = some (.bl r, μ5) := e5
  have l11 := R3.lt (i := 11) (by decide)
  have x1 := ix_mine R3 G3.mine v10c hK
  have s4 : evS Γ0 (.set 11 (.call "_law_unify" 20 (.cons (.var 4) (.cons (.prim .ix (.cons (.var 5) (.cons (.var 10) .nil))) (.cons (.var 15) .nil))))) ρ3 μ3 = some (.nx, ρ3.set 11 (.val (.bl r)), μ4) :=
    set_ev (by
      generalize IE.prim .ix (.cons (.var 5) (.cons (.var 10) .nil)) = ie at x1
      simp [evE, evEs, evO, evC, evF, evSrc, evIn, evS, evSs, Option.bind_some, Option.map_some, Option.bind_none, Option.map_none, List.map_cons, List.map_nil, slot_c0, slot_cs, own_c0, own_cs, ownv_c0, ownv_cs, ownt_c0, tup_c0, tup_cs, view_int, view_str, view_bl, view_non, view_tup, view_lst, view_ty, view_fn, p_bin, p_neg, p_cmp, p_ix, p_len_tup, p_len_lst, p_abs, p_int, p_intb, p_isi, p_tuple_tup, p_tuple_lst, p_max, p_min, b_add_int, b_sub_int, c_lt, c_le, c_gt, c_ge, c_eq, c_ne, ix_tup, ix_lst, at0, at1, at2, at3, at4, at5, eq_int, eq_str, eq_bl, truD, set_c0, set_cs, setS_c, isi_tuple_tup, isi_tuple_lst, isi_tuple_str, isi_tuple_int, isi_tuple_non, isi_tuple_bl, isi_str_str, isi_str_tup, isi_str_int, isi_str_non, isi_str_lst, isi_str_bl, if_true_, if_false_, R3.r4, x1, v15, Γf, e4]) l11
  have R4 := R3.set (i := 11) (by decide) (s := .val (.bl r))
  have v16b : slotD (ρ3.set 11 (.val (.bl r))) 16 = some (B.e 0) := by rw [slot_off (by decide)]; exact v16
  have v10d : slotD (ρ3.set 11 (.val (.bl r))) 10 = some (.int (j : Int)) := by rw [slot_off (by decide)]; exact v10c
  have v11 : slotD (ρ3.set 11 (.val (.bl r))) 11 = some (.bl r) := slot_on l11
  generalize ρ3.set 11 (.val (.bl r)) = ρ4 at s4 R4 v16b v10d v11
  have x2 := ix_its R4 i4 v10d hK
  unfold sC
  rw [seq s1, seq s2, seq s3, seq s4]
  refine tail_ok R4 v11 ?_ b5 g5
  rw [mc_ev R4 S4 (fun _ _ => no_unify)]
  generalize IE.prim .ix (.cons (.var 6) (.cons (.var 10) .nil)) = ie at x2
  simp [evE, evEs, evO, evC, evF, evSrc, evIn, evS, evSs, Option.bind_some, Option.map_some, Option.bind_none, Option.map_none, List.map_cons, List.map_nil, slot_c0, slot_cs, own_c0, own_cs, ownv_c0, ownv_cs, ownt_c0, tup_c0, tup_cs, view_int, view_str, view_bl, view_non, view_tup, view_lst, view_ty, view_fn, p_bin, p_neg, p_cmp, p_ix, p_len_tup, p_len_lst, p_abs, p_int, p_intb, p_isi, p_tuple_tup, p_tuple_lst, p_max, p_min, b_add_int, b_sub_int, c_lt, c_le, c_gt, c_ge, c_eq, c_ne, ix_tup, ix_lst, at0, at1, at2, at3, at4, at5, eq_int, eq_str, eq_bl, truD, set_c0, set_cs, setS_c, isi_tuple_tup, isi_tuple_lst, isi_tuple_str, isi_tuple_int, isi_tuple_non, isi_tuple_bl, isi_str_str, isi_str_tup, isi_str_int, isi_str_non, isi_str_lst, isi_str_bl, if_true_, if_false_, x2, v16b, e5]
end
end FH.K06
end
section
namespace FH.K06
open PySem PySem.Spec PyProof.Rows L2
/-! numbers stay small -/
theorem ren1_small {B : Nat} {M : Nm} {i : Nat} (h : ∀ q ∈ M, q.2 < B) (hl : M.length < B) : (ren1 M i).1 < B ∧ ∀ q ∈ (ren1 M i).2, q.2 < B := by
  unfold ren1
  cases hm : M.lookup i with
  | some j =>
    refine ⟨?_, h⟩
    have : ∃ q ∈ M, q.2 = j := by
      clear h hl
      induction M with
      | nil => simp [List.lookup] at hm
      | cons q M ih =>
        rw [List.lookup_cons] at hm
        cases hb : (i == q.1) with
        | true => rw [hb] at hm; exact ⟨q, List.mem_cons_self, Option.some.inj hm⟩
        | false =>
          rw [hb] at hm
          obtain ⟨q', a, b⟩ := ih hm
          exact ⟨q', List.mem_cons_of_mem _ a, b⟩
    obtain ⟨q, a, b⟩ := this
    rw [← b]; exact h q a
  | none =>
    refine ⟨hl, fun q hq => ?_⟩
    rcases List.mem_append.mp hq with hq | hq
    · exact h q hq
    · rw [List.mem_singleton.mp hq]; exact hl
theorem renL_small {B : Nat} (hB : B ≤ 1000) : ∀ {Ks : List Kd} {M : Nm}, (∀ q ∈ M, q.2 < B) → M.length + Ks.length ≤ B → ∀ K ∈ (renL M Ks).1, K.sm = true
  | [], M, _, _ => fun K h => by simp [renL] at h
  | X :: Ks, M, h, hl => by
    simp only [List.length_cons] at hl
    have step : (renK M X).1.sm = true ∧ ∀ q ∈ (renK M X).2, q.2 < B := by
      cases X with
      | b s => exact ⟨rfl, h⟩
      | v i => obtain ⟨a, b⟩ := ren1_small (i := i) h (by omega); exact ⟨by simp [renK, Kd.sm]; omega, b⟩
      | rb s => exact ⟨rfl, h⟩
      | rv i => obtain ⟨a, b⟩ := ren1_small (i := i) h (by omega); exact ⟨by simp [renK, Kd.sm]; omega, b⟩
    have hl2 := renK_len (M := M) (K := X)
    intro K hK
    simp only [renL, List.mem_cons] at hK
    rcases hK with rfl | hK
    · exact step.1
    · exact renL_small hB step.2 (by omega) K hK
theorem renL_len : ∀ {Ks : List Kd} {M : Nm}, (renL M Ks).1.length = Ks.length
  | [], _ => rfl
  | X :: Ks, M => by simp [renL, renL_len]
section
variable {p q z N c : Nat} {f g : Nat → Option Kd} {lim : Nat → Option Wd} {KS : List Kd} {cs : List D} {μ μ' : Store} {ρ : Slots} {K : Kd} {i j n t l : Nat}
theorem Inv.full (I : Inv N c f g lim KS) (cc : c < 400) (hN : N ≤ 1000) (hA : K ∈ KS) : ∃ F, Full f K F ∧ Full g K F ∧ F.sm = true := by
  obtain ⟨m, K1, F, _, _, lk, gF, fF, v1, p1⟩ := I.ent (by omega) (.inl hA)
  refine ⟨F, fF, gF, ?_⟩
  cases lk with
  | flat e =>
    cases K1 with
    | b z => rfl
    | v u => have := (v1 u rfl).1; simp [Kd.sm]; omega
    | rb _ => rfl
    | rv _ => cases e
  | rb => rfl
  | rv a b => have := I.rt a (p1 _ rfl).1; simp [Kd.sm]; omega
  | rvb _ _ => rfl
theorem Inv.fulls (I : Inv N c f g lim KS) (cc : c < 400) (hN : N ≤ 1000) : ∃ φ : Kd → Kd, ∀ K ∈ KS, Full f K (φ K) ∧ Full g K (φ K) ∧ (φ K).sm = true := by
  classical
  refine ⟨fun K => if h : K ∈ KS then (I.full cc hN h).choose else K, fun K hK => ?_⟩
  simp only [hK, dif_pos]
  exact (I.full cc hN hK).choose_spec
/-! a walk along a list that may change -/
theorem loopCC_map {fn : D → Store → Option (Option D × Store)} {a b : Kd → D} (hn : μ[n]? = some (.lst (KS.map a))) (hf : ∀ K ∈ KS, fn (a K) μ = some (some (b K), μ)) :
    ∀ (k i : Nat), i ≤ KS.length ∧ KS.length < i + k → loopCC fn n k i μ = some ((KS.drop i).map b, μ)
  | 0, i, h => by
    omega
  | k + 1, i, h => by
    unfold loopCC
    simp only [hn]
    by_cases hi : i < KS.length
    · have e : (KS.map a)[i]? = some (a KS[i]) := by simp [hi]
      rw [e]
      simp only [hf _ (List.getElem_mem hi), Option.bind_some, loopCC_map hn hf k (i + 1) (by omega)]
      rw [List.drop_eq_getElem_cons hi]; rfl
    · have e : (KS.map a)[i]? = none := by simp; omega
      rw [e, List.drop_eq_nil_of_le (by omega)]; rfl
theorem comp_ev {Γ : Env2} {v w : Nat} {nm : Str} {e : IE} {a b : Kd → D} (hv : slotD ρ v = some (.ref n)) (hw : w < ρ.length) (hn : μ[n]? = some (.lst (KS.map a))) (hl : KS.length < 1000)
    (he : ∀ K ∈ KS, evE Γ e (ρ.set w (.val (a K))) μ = some (b K, μ)) : evF Γ (.comp (.nm w) [(nm, w)] (.cel (.var v)) .no e) ρ μ = some (KS.map b, μ) := by
  have src : evSrc Γ (.cel (.var v)) ρ μ = some (.cel n, μ) := by simp [evE, evEs, evO, evC, evF, evSrc, evIn, evS, evSs, Option.bind_some, Option.map_some, Option.bind_none, Option.map_none, List.map_cons, List.map_nil, slot_c0, slot_cs, own_c0, own_cs, ownv_c0, ownv_cs, ownt_c0, tup_c0, tup_cs, view_int, view_str, view_bl, view_non, view_tup, view_lst, view_ty, view_fn, p_bin, p_neg, p_cmp, p_ix, p_len_tup, p_len_lst, p_abs, p_int, p_intb, p_isi, p_tuple_tup, p_tuple_lst, p_max, p_min, b_add_int, b_sub_int, c_lt, c_le, c_gt, c_ge, c_eq, c_ne, ix_tup, ix_lst, at0, at1, at2, at3, at4, at5, eq_int, eq_str, eq_bl, truD, set_c0, set_cs, setS_c, isi_tuple_tup, isi_tuple_lst, isi_tuple_str, isi_tuple_int, isi_tuple_non, isi_tuple_bl, isi_str_str, isi_str_tup, isi_str_int, isi_str_non, isi_str_lst, isi_str_bl, if_true_, if_false_, hv, hn]
  unfold evF
  rw [src]
  simp only [Option.bind_some]
  have key := loopCC_map (n := n) (KS := KS) (a := a) (b := b) (μ := μ) (fn := fun x μ => (asgT (.nm w) x (wipeS ρ ([(nm, w)].map (·.2)))).bind fun ρ' => (evC Γ .no ρ' μ).bind fun k => if k.1 then (evE Γ e ρ' k.2).map fun q => (some q.1, q.2) else some (none, k.2)) hn
    (fun K hK => by
      have h := he K hK
      simp [asgT, wipeS, hw, evC, h]) sizeLine 0 ⟨by omega, by rw [Nat.zero_add]; exact Nat.lt_of_lt_of_le hl (by decide)⟩
  simpa using key
theorem mc2_ev {m : Str} {fd : Nat} {es : IEs} (h : slotD ρ i = some (.ref n)) (hS : SolS z N n t l f lim μ) (hm : ∀ t l : D, ([("told", t), ("limits", l)] : List (Str × D)).lookup m = none) :
    evE Γ0 (.mcall 0 m fd (.var i) es) ρ μ = (evEs Γ0 es ρ μ).bind fun q => run fs 59 fd (.ref n :: q.1) q.2 := by
  obtain ⟨T, L, S, _⟩ := hS
  simp [evE, evEs, evO, evC, evF, evSrc, evIn, evS, evSs, Option.bind_some, Option.map_some, Option.bind_none, Option.map_none, List.map_cons, List.map_nil, slot_c0, slot_cs, own_c0, own_cs, ownv_c0, ownv_cs, ownt_c0, tup_c0, tup_cs, view_int, view_str, view_bl, view_non, view_tup, view_lst, view_ty, view_fn, p_bin, p_neg, p_cmp, p_ix, p_len_tup, p_len_lst, p_abs, p_int, p_intb, p_isi, p_tuple_tup, p_tuple_lst, p_max, p_min, b_add_int, b_sub_int, c_lt, c_le, c_gt, c_ge, c_eq, c_ne, ix_tup, ix_lst, at0, at1, at2, at3, at4, at5, eq_int, eq_str, eq_bl, truD, set_c0, set_cs, setS_c, isi_tuple_tup, isi_tuple_lst, isi_tuple_str, isi_tuple_int, isi_tuple_non, isi_tuple_bl, isi_str_str, isi_str_tup, isi_str_int, isi_str_non, isi_str_lst, isi_str_bl, if_true_, if_false_, h, S.n, hm, Γf]
theorem led_comp {φ : Kd → Kd} (R : Rg p ρ) (hi : slotD ρ i = some (.ref n)) (i22 : i ≠ 22) (hS : SolS z N n t l f lim μ) (its : μ[p + 7]? = some (.lst (KS.map (Kd.e 0)))) (hl : KS.length < 1000) (hφ : ∀ K ∈ KS, Full f K (φ K)) :
    evF Γ0 (.comp (.nm 22) [("kind", 22)] (.cel (.var 6)) .no (.mcall 0 "led" 11 (.var i) (.cons (.var 22) .nil))) ρ μ = some ((KS.map φ).map (Kd.e 0), μ) := by
  have l22 := R.lt (i := 22) (by decide)
  have := comp_ev (Γ := Γ0) (nm := "kind") (e := .mcall 0 "led" 11 (.var i) (.cons (.var 22) .nil)) (b := fun K => (φ K).e 0) R.r6 l22 its hl (fun K hK => by
    obtain ⟨T, L, S, F, _⟩ := id hS
    have e := led (k := 55) S F (hφ K hK)
    have e : run fs 59 11 [.ref n, K.e 0] μ = some ((φ K).e 0, μ) := e
    rw [mc2_ev (i := i) (by rw [slot_off (Ne.symm i22)]; exact hi) hS (fun _ _ => no_led)]
    have v : slotD (ρ.set 22 (.val (K.e 0))) 22 = some (K.e 0) := slot_on (by simp [R.len])
    simp [evE, evEs, evO, evC, evF, evSrc, evIn, evS, evSs, Option.bind_some, Option.map_some, Option.bind_none, Option.map_none, List.map_cons, List.map_nil, slot_c0, slot_cs, own_c0, own_cs, ownv_c0, ownv_cs, ownt_c0, tup_c0, tup_cs, view_int, view_str, view_bl, view_non, view_tup, view_lst, view_ty, view_fn, p_bin, p_neg, p_cmp, p_ix, p_len_tup, p_len_lst, p_abs, p_int, p_intb, p_isi, p_tuple_tup, p_tuple_lst, p_max, p_min, b_add_int, b_sub_int, c_lt, c_le, c_gt, c_ge, c_eq, c_ne, ix_tup, ix_lst, at0, at1, at2, at3, at4, at5, eq_int, eq_str, eq_bl, truD, set_c0, set_cs, setS_c, isi_tuple_tup, isi_tuple_lst, isi_tuple_str, isi_tuple_int, isi_tuple_non, isi_tuple_bl, isi_str_str, isi_str_tup, isi_str_int, isi_str_non, isi_str_lst, isi_str_bl, if_true_, if_false_, v, e])
  rw [this, List.map_map]; rfl
theorem found_comp {φ : Kd → Kd} (R : Rg p ρ) (hS : NetS z N (p + 5) (p + 3) (p + 4) g lim μ) (mine : μ[p + 6]? = some (.lst (KS.map (Kd.e 1)))) (hl : KS.length < 1000) (hφ : ∀ K ∈ KS, Full g K (φ K)) :
    evF Γ0 (.comp (.nm 22) [("kind", 22)] (.cel (.var 5)) .no (.call "_law_found" 19 (.cons (.prim .ix (.cons (.var 4) (.cons (.lit (.int 0)) .nil))) (.cons (.var 22) .nil)))) ρ μ = some ((KS.map φ).map (Kd.e 1), μ) := by
  have l22 := R.lt (i := 22) (by decide)
  have := comp_ev (Γ := Γ0) (nm := "kind") (e := .call "_law_found" 19 (.cons (.prim .ix (.cons (.var 4) (.cons (.lit (.int 0)) .nil))) (.cons (.var 22) .nil))) (b := fun K => (φ K).e 1) R.r5 l22 mine hl (fun K hK => by
    obtain ⟨T, M, S, F, _⟩ := id hS
    have e := lfound (k := 57) S.a F (hφ K hK)
    have e : run fs 59 19 [.ref (p + 3), K.e 1] μ = some ((φ K).e 1, μ) := e
    have v : slotD (ρ.set 22 (.val (K.e 1))) 22 = some (K.e 1) := slot_on (by simp [R.len])
    have v4 : slotD (ρ.set 22 (.val (K.e 1))) 4 = some (.ref (p + 5)) := by rw [slot_off (by decide)]; exact R.r4
    have e5 := view_lstc S.n
    simp [evE, evEs, evO, evC, evF, evSrc, evIn, evS, evSs, Option.bind_some, Option.map_some, Option.bind_none, Option.map_none, List.map_cons, List.map_nil, slot_c0, slot_cs, own_c0, own_cs, ownv_c0, ownv_cs, ownt_c0, tup_c0, tup_cs, view_int, view_str, view_bl, view_non, view_tup, view_lst, view_ty, view_fn, p_bin, p_neg, p_cmp, p_ix, p_len_tup, p_len_lst, p_abs, p_int, p_intb, p_isi, p_tuple_tup, p_tuple_lst, p_max, p_min, b_add_int, b_sub_int, c_lt, c_le, c_gt, c_ge, c_eq, c_ne, ix_tup, ix_lst, at0, at1, at2, at3, at4, at5, eq_int, eq_str, eq_bl, truD, set_c0, set_cs, setS_c, isi_tuple_tup, isi_tuple_lst, isi_tuple_str, isi_tuple_int, isi_tuple_non, isi_tuple_bl, isi_str_str, isi_str_tup, isi_str_int, isi_str_non, isi_str_lst, isi_str_bl, if_true_, if_false_, v, v4, e5, Γf, e])
  rw [this, List.map_map]; rfl
theorem SG.app (G : SG p z N c f g lim KS cs μ) {X : Store} : SG p z N c f g lim KS cs (μ ++ X) := by
  have h := at_lt G.its
  have a : ∀ i, i < p + 8 → (μ ++ X)[i]? = μ[i]? := fun i hi => List.getElem?_append_left (by omega)
  exact G.frame (bag_frame G.bag (a _ (by have := G.p0; omega))) fun i _ h2 => a i h2
theorem SolS.app (h : SolS z N n t l f lim μ) {X : Store} : SolS z N n t l f lim (μ ++ X) := by
  obtain ⟨T, L, S, r⟩ := id h
  exact h.frame (List.getElem?_append_left (at_lt S.n)) (List.getElem?_append_left (at_lt S.t)) (List.getElem?_append_left (at_lt S.l))
theorem ne_nil (R : Rg p ρ) (G : SG p z N c f g lim KS cs μ) (bz : z < 300) : evE Γ0 (.prim (.cmp .NotEq) (.cons (.var 5) (.cons (.frz (.disp .nil)) .nil))) ρ μ = some (.bl (!KS.isEmpty), μ) := by
  have e1 := eq_nil (o := 1) (G.sm bz) (.inr rfl)
  have e2 := view_lstc G.mine
  simp [evE, evEs, evO, evC, evF, evSrc, evIn, evS, evSs, Option.bind_some, Option.map_some, Option.bind_none, Option.map_none, List.map_cons, List.map_nil, slot_c0, slot_cs, own_c0, own_cs, ownv_c0, ownv_cs, ownt_c0, tup_c0, tup_cs, view_int, view_str, view_bl, view_non, view_tup, view_lst, view_ty, view_fn, p_bin, p_neg, p_cmp, p_ix, p_len_tup, p_len_lst, p_abs, p_int, p_intb, p_isi, p_tuple_tup, p_tuple_lst, p_max, p_min, b_add_int, b_sub_int, c_lt, c_le, c_gt, c_ge, c_eq, c_ne, ix_tup, ix_lst, at0, at1, at2, at3, at4, at5, eq_int, eq_str, eq_bl, truD, set_c0, set_cs, setS_c, isi_tuple_tup, isi_tuple_lst, isi_tuple_str, isi_tuple_int, isi_tuple_non, isi_tuple_bl, isi_str_str, isi_str_tup, isi_str_int, isi_str_non, isi_str_lst, isi_str_bl, if_true_, if_false_, R.r5, e1, e2, le_size]
theorem tail_all (R : Rg p ρ) (G : SG p z N c f g lim KS cs μ) (bz : z < 300) : Nx p z cs (evSs Γ0 (.cons sT2 (.cons sT3 (.cons sT4 (.cons sT5 .nil)))) ρ μ) := by
  have bc := G.bc
  have bN := G.bN
  have bK := G.bK
  obtain ⟨φ, hφ⟩ := G.inv.fulls (by omega) (by omega)
  have φf : ∀ K ∈ KS, Full f K (φ K) := fun K h => (hφ K h).1
  have φg : ∀ K ∈ KS, Full g K (φ K) := fun K h => (hφ K h).2.1
  have sm1 : ∀ K ∈ KS.map φ, K.sm = true := fun K h => by
    obtain ⟨x, hx, rfl⟩ := List.mem_map.mp h
    exact (hφ x hx).2.2
  generalize hFS : KS.map φ = FS at sm1
  have lFS : FS.length = KS.length := by rw [← hFS]; simp
  -- the twin
  have l17 := R.lt (i := 17) (by decide)
  obtain ⟨T, L, S, F, hL, hz, hn⟩ := id G.sol
  have tw := twin (k := 56) S
  have tw : run fs 59 12 [.ref p] μ = some (.ref μ.length, μ ++ [solC (μ.length + 3) (μ.length + 4), .dic [], .lst [], .dic T, .lst L]) := tw
  have s1 : evS Γ0 sT2 ρ μ = some (.nx, ρ.set 17 (.val (.ref μ.length)), μ ++ [solC (μ.length + 3) (μ.length + 4), .dic [], .lst [], .dic T, .lst L]) :=
    set_ev (by
      rw [mc_ev R G.sol (fun _ _ => no_twin)]
      simp [evE, evEs, evO, evC, evF, evSrc, evIn, evS, evSs, Option.bind_some, Option.map_some, Option.bind_none, Option.map_none, List.map_cons, List.map_nil, slot_c0, slot_cs, own_c0, own_cs, ownv_c0, ownv_cs, ownt_c0, tup_c0, tup_cs, view_int, view_str, view_bl, view_non, view_tup, view_lst, view_ty, view_fn, p_bin, p_neg, p_cmp, p_ix, p_len_tup, p_len_lst, p_abs, p_int, p_intb, p_isi, p_tuple_tup, p_tuple_lst, p_max, p_min, b_add_int, b_sub_int, c_lt, c_le, c_gt, c_ge, c_eq, c_ne, ix_tup, ix_lst, at0, at1, at2, at3, at4, at5, eq_int, eq_str, eq_bl, truD, set_c0, set_cs, setS_c, isi_tuple_tup, isi_tuple_lst, isi_tuple_str, isi_tuple_int, isi_tuple_non, isi_tuple_bl, isi_str_str, isi_str_tup, isi_str_int, isi_str_non, isi_str_lst, isi_str_bl, if_true_, if_false_, tw]) l17
  have R1 := R.set (i := 17) (by decide) (s := .val (.ref μ.length))
  have v17 : slotD (ρ.set 17 (.val (.ref μ.length))) 17 = some (.ref μ.length) := slot_on l17
  have G1 := G.app (X := [solC (μ.length + 3) (μ.length + 4), .dic [], .lst [], .dic T, .lst L])
  have W1 : SolS z N μ.length (μ.length + 3) (μ.length + 4) f lim (μ ++ [solC (μ.length + 3) (μ.length + 4), .dic [], .lst [], .dic T, .lst L]) :=
    ⟨T, L, ⟨by simp [solC], by simp, by simp⟩, F, hL, hz, hn⟩
  have hq : p + 8 ≤ μ.length := by have := at_lt G.its; omega
  generalize μ.length = q at s1 R1 v17 W1 hq G1
  generalize μ ++ [solC (q + 3) (q + 4), .dic [], .lst [], .dic T, .lst L] = μ1 at s1 G1 W1
  generalize ρ.set 17 (.val (.ref q)) = ρ1 at s1 R1 v17
  -- found, due
  have c1 := led_comp (φ := φ) (i := 3) R1 R1.r3 (by decide) G1.sol G1.its (by omega) φf
  have c2 := found_comp (φ := φ) R1 G1.net G1.mine (by omega) φg
  rw [hFS] at c1 c2
  have s2 : evS Γ0 sT3 ρ1 μ1 = some (.nx, (ρ1.set 18 (.val (.lst (FS.map (Kd.e 0))))).set 19 (.val (.lst (FS.map (Kd.e 1)))), μ1) := by
    unfold sT3
    generalize FE.comp (.nm 22) [("kind", 22)] (.cel (.var 6)) .no (.mcall 0 "led" 11 (.var 3) (.cons (.var 22) .nil)) = fe1 at c1
    generalize FE.comp (.nm 22) [("kind", 22)] (.cel (.var 5)) .no (.call "_law_found" 19 (.cons (.prim .ix (.cons (.var 4) (.cons (.lit (.int 0)) .nil))) (.cons (.var 22) .nil))) = fe2 at c2
    simp [evE, evEs, evO, evC, evF, evSrc, evIn, evS, evSs, Option.bind_some, Option.map_some, Option.bind_none, Option.map_none, List.map_cons, List.map_nil, slot_c0, slot_cs, own_c0, own_cs, ownv_c0, ownv_cs, ownt_c0, tup_c0, tup_cs, view_int, view_str, view_bl, view_non, view_tup, view_lst, view_ty, view_fn, p_bin, p_neg, p_cmp, p_ix, p_len_tup, p_len_lst, p_abs, p_int, p_intb, p_isi, p_tuple_tup, p_tuple_lst, p_max, p_min, b_add_int, b_sub_int, c_lt, c_le, c_gt, c_ge, c_eq, c_ne, ix_tup, ix_lst, at0, at1, at2, at3, at4, at5, eq_int, eq_str, eq_bl, truD, set_c0, set_cs, setS_c, isi_tuple_tup, isi_tuple_lst, isi_tuple_str, isi_tuple_int, isi_tuple_non, isi_tuple_bl, isi_str_str, isi_str_tup, isi_str_int, isi_str_non, isi_str_lst, isi_str_bl, if_true_, if_false_, c1, c2, R1.len]
  have R2 := (R1.set (i := 18) (by decide) (s := .val (.lst (FS.map (Kd.e 0))))).set (i := 19) (by decide) (s := .val (.lst (FS.map (Kd.e 1))))
  have v18 : slotD ((ρ1.set 18 (.val (.lst (FS.map (Kd.e 0))))).set 19 (.val (.lst (FS.map (Kd.e 1))))) 18 = some (.lst (FS.map (Kd.e 0))) := by rw [slot_off (by decide)]; exact slot_on (by simp [R1.len])
  have v19 : slotD ((ρ1.set 18 (.val (.lst (FS.map (Kd.e 0))))).set 19 (.val (.lst (FS.map (Kd.e 1))))) 19 = some (.lst (FS.map (Kd.e 1))) := slot_on (by simp [R1.len])
  have v17b : slotD ((ρ1.set 18 (.val (.lst (FS.map (Kd.e 0))))).set 19 (.val (.lst (FS.map (Kd.e 1))))) 17 = some (.ref q) := by rw [slot_off (by decide), slot_off (by decide)]; exact v17
  generalize (ρ1.set 18 (.val (.lst (FS.map (Kd.e 0))))).set 19 (.val (.lst (FS.map (Kd.e 1)))) = ρ2 at s2 R2 v18 v19 v17b
  -- numbered
  have e1 := numbered (k := 54) (μ := μ1) (Ks := FS) (by omega)
  have e1 : run fs 59 13 [.tup (FS.map (Kd.e 0))] μ1 = some (.tup ((renL [] FS).1.map (Kd.e 0)), μ1 ++ [.dic (dk 0 (renL [] FS).2)]) := e1
  have sm2 := renL_small (B := 1000) (Nat.le_refl _) (Ks := FS) (M := []) (fun q h => by simp at h) (by simp; omega)
  have ln2 := renL_len (Ks := FS) (M := [])
  have G2 := G1.app (X := [.dic (dk 0 (renL [] FS).2)])
  have W2 := W1.app (X := [.dic (dk 0 (renL [] FS).2)])
  generalize μ1 ++ [Cell.dic (dk 0 (renL [] FS).2)] = μ2 at e1 G2 W2
  have c3 := led_comp (φ := φ) (i := 17) R2 v17b (by decide) W2 G2.its (by omega) φf
  rw [hFS] at c3
  have e2 := lnumbered (k := 54) (μ := μ2) (Ks := FS) (by omega)
  have e2 : run fs 59 25 [.lst (FS.map (Kd.e 1))] μ2 = some (.tup ((renL [] FS).1.map (Kd.e 0)), μ2 ++ [.dic (dk 1 (renL [] FS).2)]) := e2
  have G3 := G2.app (X := [.dic (dk 1 (renL [] FS).2)])
  have W3 := W2.app (X := [.dic (dk 1 (renL [] FS).2)])
  generalize μ2 ++ [Cell.dic (dk 1 (renL [] FS).2)] = μ3 at e2 G3 W3
  generalize (renL [] FS).1 = NS at e1 e2 sm2 ln2
  obtain ⟨g1, g2, g3⟩ := goods (o := 0) sm1 (.inl rfl)
  obtain ⟨k1, k2, k3⟩ := goods (o := 0) sm2 (.inl rfl)
  have al : run fs 59 18 [.lst [.tup (NS.map (Kd.e 0)), .lst (FS.map (Kd.e 0))], .lst [.tup (NS.map (Kd.e 0)), .lst (FS.map (Kd.e 0))]] μ3 = some (.bl true, μ3) :=
    alike_at (k := 58) g18 (by simp [D.good, goodL, g1, k1]) (by simp [D.dep, depL]; omega) (by simp [D.wgt, wgtL]; omega)
  have s3 : evS Γ0 sT4 ρ2 μ1 = some (.nx, ρ2, μ3) := by
    unfold sT4
    have a1 : evE Γ0 (.frz (.disp (.cons (.call "numbered" 13 (.cons (.prim .tuple (.cons (.var 18) .nil)) .nil)) (.cons (.frz (.comp (.nm 22) [("kind", 22)] (.cel (.var 6)) .no (.mcall 0 "led" 11 (.var 17) (.cons (.var 22) .nil)))) .nil)))) ρ2 μ1 = some (.lst [.tup (NS.map (Kd.e 0)), .lst (FS.map (Kd.e 0))], μ2) := by
      generalize FE.comp (.nm 22) [("kind", 22)] (.cel (.var 6)) .no (.mcall 0 "led" 11 (.var 17) (.cons (.var 22) .nil)) = fe at c3
      simp [evE, evEs, evO, evC, evF, evSrc, evIn, evS, evSs, Option.bind_some, Option.map_some, Option.bind_none, Option.map_none, List.map_cons, List.map_nil, slot_c0, slot_cs, own_c0, own_cs, ownv_c0, ownv_cs, ownt_c0, tup_c0, tup_cs, view_int, view_str, view_bl, view_non, view_tup, view_lst, view_ty, view_fn, p_bin, p_neg, p_cmp, p_ix, p_len_tup, p_len_lst, p_abs, p_int, p_intb, p_isi, p_tuple_tup, p_tuple_lst, p_max, p_min, b_add_int, b_sub_int, c_lt, c_le, c_gt, c_ge, c_eq, c_ne, ix_tup, ix_lst, at0, at1, at2, at3, at4, at5, eq_int, eq_str, eq_bl, truD, set_c0, set_cs, setS_c, isi_tuple_tup, isi_tuple_lst, isi_tuple_str, isi_tuple_int, isi_tuple_non, isi_tuple_bl, isi_str_str, isi_str_tup, isi_str_int, isi_str_non, isi_str_lst, isi_str_bl, if_true_, if_false_, v18, Γf, e1, c3, le_size]
    have a2 : evE Γ0 (.frz (.disp (.cons (.call "_law_numbered" 25 (.cons (.var 19) .nil)) (.cons (.var 18) .nil)))) ρ2 μ2 = some (.lst [.tup (NS.map (Kd.e 0)), .lst (FS.map (Kd.e 0))], μ3) := by
      simp [evE, evEs, evO, evC, evF, evSrc, evIn, evS, evSs, Option.bind_some, Option.map_some, Option.bind_none, Option.map_none, List.map_cons, List.map_nil, slot_c0, slot_cs, own_c0, own_cs, ownv_c0, ownv_cs, ownt_c0, tup_c0, tup_cs, view_int, view_str, view_bl, view_non, view_tup, view_lst, view_ty, view_fn, p_bin, p_neg, p_cmp, p_ix, p_len_tup, p_len_lst, p_abs, p_int, p_intb, p_isi, p_tuple_tup, p_tuple_lst, p_max, p_min, b_add_int, b_sub_int, c_lt, c_le, c_gt, c_ge, c_eq, c_ne, ix_tup, ix_lst, at0, at1, at2, at3, at4, at5, eq_int, eq_str, eq_bl, truD, set_c0, set_cs, setS_c, isi_tuple_tup, isi_tuple_lst, isi_tuple_str, isi_tuple_int, isi_tuple_non, isi_tuple_bl, isi_str_str, isi_str_tup, isi_str_int, isi_str_non, isi_str_lst, isi_str_bl, if_true_, if_false_, v18, v19, Γf, e2, le_size]
    rw [if_ev (μ' := μ3) false (by
      generalize IE.frz (.disp (.cons (.call "numbered" 13 (.cons (.prim .tuple (.cons (.var 18) .nil)) .nil)) (.cons (.frz (.comp (.nm 22) [("kind", 22)] (.cel (.var 6)) .no (.mcall 0 "led" 11 (.var 17) (.cons (.var 22) .nil)))) .nil))) = ie1 at a1
      generalize IE.frz (.disp (.cons (.call "_law_numbered" 25 (.cons (.var 19) .nil)) (.cons (.var 18) .nil))) = ie2 at a2
      simp [evE, evEs, evO, evC, evF, evSrc, evIn, evS, evSs, Option.bind_some, Option.map_some, Option.bind_none, Option.map_none, List.map_cons, List.map_nil, slot_c0, slot_cs, own_c0, own_cs, ownv_c0, ownv_cs, ownt_c0, tup_c0, tup_cs, view_int, view_str, view_bl, view_non, view_tup, view_lst, view_ty, view_fn, p_bin, p_neg, p_cmp, p_ix, p_len_tup, p_len_lst, p_abs, p_int, p_intb, p_isi, p_tuple_tup, p_tuple_lst, p_max, p_min, b_add_int, b_sub_int, c_lt, c_le, c_gt, c_ge, c_eq, c_ne, ix_tup, ix_lst, at0, at1, at2, at3, at4, at5, eq_int, eq_str, eq_bl, truD, set_c0, set_cs, setS_c, isi_tuple_tup, isi_tuple_lst, isi_tuple_str, isi_tuple_int, isi_tuple_non, isi_tuple_bl, isi_str_str, isi_str_tup, isi_str_int, isi_str_non, isi_str_lst, isi_str_bl, if_true_, if_false_, a1, a2, Γf, al])]
    simp [nil_ev]
  -- the twin goes on by itself
  have s4 : ∃ μ4, evS Γ0 sT5 ρ2 μ3 = some (.nx, ρ2, μ4) ∧ SG p z N c f g lim KS cs μ4 := by
    unfold sT5
    cases hK : KS with
    | nil =>
      subst hK
      have n0 := ne_nil R2 G3 bz
      rw [if_ev (μ' := μ3) false (by simpa using n0)]
      exact ⟨μ3, by simp [nil_ev], G3⟩
    | cons K0 Ks =>
      have n0 := ne_nil R2 G3 bz
      rw [hK] at n0
      rw [if_ev (μ' := μ3) true (by simpa using n0)]
      rw [← hK]
      obtain ⟨r, f', g', lim', _, qs, _⟩ := uni (k := 53) (k' := 54) (z := z) (A := K0) (B := .b .tr) G3.inv (by omega) (by omega) (.inl (by rw [hK]; exact List.mem_cons_self)) (.inr ⟨.tr, rfl⟩)
      obtain ⟨μ4, e4, ch4, _⟩ := qs q (q + 3) (q + 4) μ3 W3
      have e4 : run fs 59 10 [.ref q, K0.e 0, .str "truth"] μ3 = some (.bl r, μ4) := e4
      have f4 : ∀ i, i < q → μ4[i]? = μ3[i]? := fun i hi => ch4.2 i (by simp; omega)
      have p0 := G.p0
      have G4 : SG p z N c f g lim KS cs μ4 := G3.frame (bag_frame G3.bag (f4 _ (by omega))) fun i _ h => f4 i (by omega)
      have iv := view_lstc G3.its
      have i0 : L2.atI (KS.map (Kd.e 0)) 0 = some (K0.e 0) := by rw [hK]; exact at0
      have x1 : evS Γ0 (.expr (.mcall 0 "unify" 10 (.var 17) (.cons (.prim .ix (.cons (.var 6) (.cons (.lit (.int 0)) .nil))) (.cons (.lit (.str "truth")) .nil)))) ρ2 μ3 = some (.nx, ρ2, μ4) := by
        have : evE Γ0 (.mcall 0 "unify" 10 (.var 17) (.cons (.prim .ix (.cons (.var 6) (.cons (.lit (.int 0)) .nil))) (.cons (.lit (.str "truth")) .nil))) ρ2 μ3 = some (.bl r, μ4) := by
          rw [mc2_ev v17b W3 (fun _ _ => no_unify)]
          simp [evE, evEs, evO, evC, evF, evSrc, evIn, evS, evSs, Option.bind_some, Option.map_some, Option.bind_none, Option.map_none, List.map_cons, List.map_nil, slot_c0, slot_cs, own_c0, own_cs, ownv_c0, ownv_cs, ownt_c0, tup_c0, tup_cs, view_int, view_str, view_bl, view_non, view_tup, view_lst, view_ty, view_fn, p_bin, p_neg, p_cmp, p_ix, p_len_tup, p_len_lst, p_abs, p_int, p_intb, p_isi, p_tuple_tup, p_tuple_lst, p_max, p_min, b_add_int, b_sub_int, c_lt, c_le, c_gt, c_ge, c_eq, c_ne, ix_tup, ix_lst, at0, at1, at2, at3, at4, at5, eq_int, eq_str, eq_bl, truD, set_c0, set_cs, setS_c, isi_tuple_tup, isi_tuple_lst, isi_tuple_str, isi_tuple_int, isi_tuple_non, isi_tuple_bl, isi_str_str, isi_str_tup, isi_str_int, isi_str_non, isi_str_lst, isi_str_bl, if_true_, if_false_, R2.r6, iv, i0, e4]
        simp only [evS, this, Option.map_some]
      have c5 := led_comp (φ := φ) (i := 3) R2 R2.r3 (by decide) G4.sol G4.its (by omega) φf
      rw [hFS] at c5
      have eqf : eqD (.lst (FS.map (Kd.e 0))) (.lst (FS.map (Kd.e 0))) = some true := eqD_refl (by simp [D.good, g1]) (by simp [D.dep]; omega)
      have x2 : evS Γ0 (.ifs (.prim (.cmp .NotEq) (.cons (.frz (.comp (.nm 22) [("kind", 22)] (.cel (.var 6)) .no (.mcall 0 "led" 11 (.var 3) (.cons (.var 22) .nil)))) (.cons (.var 18) .nil))) (.cons (.ret (.lit (.bl false))) .nil) .nil) ρ2 μ4 = some (.nx, ρ2, μ4) := by
        generalize FE.comp (.nm 22) [("kind", 22)] (.cel (.var 6)) .no (.mcall 0 "led" 11 (.var 3) (.cons (.var 22) .nil)) = fe at c5
        rw [if_ev (μ' := μ4) false (by simp [evE, evEs, evO, evC, evF, evSrc, evIn, evS, evSs, Option.bind_some, Option.map_some, Option.bind_none, Option.map_none, List.map_cons, List.map_nil, slot_c0, slot_cs, own_c0, own_cs, ownv_c0, ownv_cs, ownt_c0, tup_c0, tup_cs, view_int, view_str, view_bl, view_non, view_tup, view_lst, view_ty, view_fn, p_bin, p_neg, p_cmp, p_ix, p_len_tup, p_len_lst, p_abs, p_int, p_intb, p_isi, p_tuple_tup, p_tuple_lst, p_max, p_min, b_add_int, b_sub_int, c_lt, c_le, c_gt, c_ge, c_eq, c_ne, ix_tup, ix_lst, at0, at1, at2, at3, at4, at5, eq_int, eq_str, eq_bl, truD, set_c0, set_cs, setS_c, isi_tuple_tup, isi_tuple_lst, isi_tuple_str, isi_tuple_int, isi_tuple_non, isi_tuple_bl, isi_str_str, isi_str_tup, isi_str_int, isi_str_non, isi_str_lst, isi_str_bl, if_true_, if_false_, c5, v18, eqf])]
        simp [nil_ev]
      exact ⟨μ4, by simp only [if_true]; rw [seq x1, seq x2, nil_ev], G4⟩
  obtain ⟨μ4, s4, G4⟩ := s4
  exact ⟨ρ2, μ4, by rw [seq s1, seq s2, seq s3, seq s4, nil_ev], R2, N, c, f, g, lim, KS, G4⟩
end
end FH.K06
end
section
namespace FH.K06
open PySem PySem.Spec PyProof.Rows L2
def thL : List D := [.non, .str "number", .str "text", .str "truth", .str "row", .tup [.str "row", .str "number"], .tup [.str "row", .tup [.str "row", .str "text"]], .tup [.str "some", .int 0], .tup [.str "row", .tup [.str "some", .int 0]], .tup [.str "row"], .lst [.str "row", .str "number"], .int 1, .tup []]
theorem th_all {x0 x1 x2 x3 x4 x5 x6 x7 x8 x9 x10 x11 x12 x13 x14 x15 x16 x17 x18 x19 x20 x21 x22 x23 : Slot} {μ : Store} :
    (loopF (fun x ρ μ => (asgT (.nm 20) x ρ).bind fun ρ' => evSs Γ0 thB ρ' μ) thL [x0, x1, x2, x3, x4, x5, x6, x7, x8, x9, x10, x11, x12, x13, x14, x15, x16, x17, x18, x19, x20, x21, x22, x23] μ).map (fun r => (r.1, r.2.2)) = some (.nx, μ) := by
  kernel_rfl
theorem l24 {ρ : Slots} (h : ρ.length = 24) : ∃ x0 x1 x2 x3 x4 x5 x6 x7 x8 x9 x10 x11 x12 x13 x14 x15 x16 x17 x18 x19 x20 x21 x22 x23, ρ = [x0, x1, x2, x3, x4, x5, x6, x7, x8, x9, x10, x11, x12, x13, x14, x15, x16, x17, x18, x19, x20, x21, x22, x23] := by
  match ρ, h with
  | [x0, x1, x2, x3, x4, x5, x6, x7, x8, x9, x10, x11, x12, x13, x14, x15, x16, x17, x18, x19, x20, x21, x22, x23], _ => exact ⟨_, _, _, _, _, _, _, _, _, _, _, _, _, _, _, _, _, _, _, _, _, _, _, _, rfl⟩
section
variable {p z : Nat} {cs : List D} {μ μ' : Store} {ρ : Slots}
/-- one step -/
theorem step_ok (R : Rg p ρ) (h : SGz p z cs μ) (bz : z < 250) : Nx p (z + 1) cs (evSs Γ0 sStep ρ μ) ∨ Bk cs (evSs Γ0 sStep ρ μ) := by
  obtain ⟨N, c, f, g, lim, KS, G⟩ := h
  obtain ⟨v, μ1, s1, G1, hv⟩ := way_ok R G (by omega)
  have R1 := R.set (i := 8) (by decide) (s := .val (.int v))
  have v8 : slotD (ρ.set 8 (.val (.int v))) 8 = some (.int v) := slot_on (by simp [R.len])
  generalize ρ.set 8 (.val (.int v)) = ρ1 at s1 R1 v8
  have main : Nx p (z + 1) cs (evS Γ0 sIf ρ1 μ1) ∨ Bk cs (evS Γ0 sIf ρ1 μ1) := by
    by_cases h1 : v < 2
    · rw [if_A v8 h1]; exact .inl (A_ok R1 G1 (by omega))
    · have ne : KS ≠ [] := fun e => by have := hv e; omega
      by_cases h2 : v = 2
      · rw [if_B v8 h2]; exact B_ok R1 G1 (by omega) ne
      · by_cases h3 : v < 5
        · rw [if_C v8 ⟨by omega, h3⟩]; exact C_ok R1 G1 (by omega) ne
        · rw [if_D v8 (by omega)]; exact D_ok R1 G1 (by omega) ne
  unfold sStep
  rw [seq s1]
  rcases main with ⟨ρ2, μ2, e, R2, N2, c2, f2, g2, lim2, KS2, G2⟩ | ⟨ρ2, μ2, e, r⟩
  · rw [seq e]; exact .inl (tail_all R2 G2 (by omega))
  · rw [seqb e]; exact .inr ⟨ρ2, μ2, rfl, r⟩
/-- what stands behind the steps -/
def Wk (cs : List D) (r : SR) : Prop := ∃ ρ' μ', r = some (.nx, ρ', μ') ∧ ρ'.length = 24 ∧ slotD ρ' 1 = some (.ref 0) ∧ BagAt μ' 0 cs
theorem steps_ok : ∀ (ds : List D) (z : Nat) (ρ : Slots) (μ : Store), Rg p ρ → SGz p z cs μ → z + ds.length < 250 → Wk cs (loopF (fun x ρ μ => (asgT (.nm 7) x ρ).bind fun ρ' => evSs Γ0 sStep ρ' μ) ds ρ μ)
  | [], z, ρ, μ, R, G, _ => by
    obtain ⟨N, c, f, g, lim, KS, G⟩ := G
    exact ⟨ρ, μ, rfl, R.len, R.r1, G.bag⟩
  | d :: ds, z, ρ, μ, R, G, hz => by
    simp only [List.length_cons] at hz
    have a : asgT (.nm 7) d ρ = some (ρ.set 7 (.val d)) := by simp [asgT, R.len]
    have R1 := R.set (i := 7) (by decide) (s := .val d)
    unfold loopF
    rw [a, Option.bind_some]
    rcases step_ok R1 G (by omega) with ⟨ρ2, μ2, e, R2, G2⟩ | ⟨ρ2, μ2, e, r⟩
    · rw [e]
      exact steps_ok ds (z + 1) ρ2 μ2 R2 G2 (by omega)
    · rw [e]
      exact ⟨ρ2, μ2, rfl, r⟩
theorem rg0 {n : Nat} : (rangeD 0 n).length = n := by simp [rangeD]
/-- a lap -/
theorem lap_ok (hl : ρ.length = 24) (h1 : slotD ρ 1 = some (.ref 0)) (hb : BagAt μ 0 cs) (ha : AllI cs) : Wk cs (evSs Γ0 (.cons lNew (.cons lStep .nil)) ρ μ) := by
  have hp : 1 ≤ μ.length := by obtain ⟨a, b, c, h⟩ := hb; exact at_lt h
  have e0 := init (k := 57) (μ := μ)
  have e0 : run fs 58 4 [.ref μ.length] (μ ++ [.ins 0 []]) = some (.non, μ ++ [solC (μ.length + 1) (μ.length + 2), .dic [], .lst []]) := e0
  have s1 : evS Γ0 lNew ρ μ = some (.nx, (((ρ.set 3 (.val (.ref μ.length))).set 4 (.val (.ref (μ.length + 5)))).set 5 (.val (.ref (μ.length + 6)))).set 6 (.val (.ref (μ.length + 7))), μ ++ [solC (μ.length + 1) (μ.length + 2), .dic [], .lst [], .dic [], .dic [], .lst [.ref (μ.length + 3), .ref (μ.length + 4), .int 0], .lst [], .lst []]) := by
    refine unp_ev (d := .tup [.ref μ.length, .ref (μ.length + 5), .ref (μ.length + 6), .ref (μ.length + 7)]) ?_ (by simp [asgT, asgTs, hl])
    simp [evE, evEs, evO, evC, evF, evSrc, evIn, evS, evSs, Option.bind_some, Option.map_some, Option.bind_none, Option.map_none, List.map_cons, List.map_nil, slot_c0, slot_cs, own_c0, own_cs, ownv_c0, ownv_cs, ownt_c0, tup_c0, tup_cs, view_int, view_str, view_bl, view_non, view_tup, view_lst, view_ty, view_fn, p_bin, p_neg, p_cmp, p_ix, p_len_tup, p_len_lst, p_abs, p_int, p_intb, p_isi, p_tuple_tup, p_tuple_lst, p_max, p_min, b_add_int, b_sub_int, c_lt, c_le, c_gt, c_ge, c_eq, c_ne, ix_tup, ix_lst, at0, at1, at2, at3, at4, at5, eq_int, eq_str, eq_bl, truD, set_c0, set_cs, setS_c, isi_tuple_tup, isi_tuple_lst, isi_tuple_str, isi_tuple_int, isi_tuple_non, isi_tuple_bl, isi_str_str, isi_str_tup, isi_str_int, isi_str_non, isi_str_lst, isi_str_bl, if_true_, if_false_, Γi, e0, le_size]
  have R1 : Rg μ.length ((((ρ.set 3 (.val (.ref μ.length))).set 4 (.val (.ref (μ.length + 5)))).set 5 (.val (.ref (μ.length + 6)))).set 6 (.val (.ref (μ.length + 7)))) := by
    refine ⟨by simp [hl], ?_, ?_, ?_, ?_, ?_⟩
    · rw [slot_off (by decide), slot_off (by decide), slot_off (by decide), slot_off (by decide)]; exact h1
    · rw [slot_off (by decide), slot_off (by decide), slot_off (by decide)]; exact slot_on (by simp [hl])
    · rw [slot_off (by decide), slot_off (by decide)]; exact slot_on (by simp [hl])
    · rw [slot_off (by decide)]; exact slot_on (by simp [hl])
    · exact slot_on (by simp [hl])
  have G1 : SGz μ.length 0 cs (μ ++ [solC (μ.length + 1) (μ.length + 2), .dic [], .lst [], .dic [], .dic [], .lst [.ref (μ.length + 3), .ref (μ.length + 4), .int 0], .lst [], .lst []]) := by
    refine ⟨0, 0, fun _ => none, fun _ => none, fun _ => none, [], hp, ha, bag_frame hb (List.getElem?_append_left hp), ?_, ?_, by simp, by simp, ?_, by omega, by omega, by simp⟩
    · exact ⟨[], [], ⟨by simp [solC], by simp, by simp⟩, fun i => rfl, fun i => rfl, Nat.le_refl _, rfl⟩
    · exact ⟨[], [], ⟨by simp, by simp, by simp⟩, fun i => rfl, fun i => rfl, Nat.le_refl _, Nat.le_refl _⟩
    · refine ⟨fun i => by simp, fun i _ => rfl, fun i => by simp, fun i h => by omega, fun i j h => (nomatch h), fun K h => (nomatch h), fun j h => ?_⟩
      rcases h with h | ⟨i, h⟩
      · cases h
      · cases h
  generalize (((ρ.set 3 (.val (.ref μ.length))).set 4 (.val (.ref (μ.length + 5)))).set 5 (.val (.ref (μ.length + 6)))).set 6 (.val (.ref (μ.length + 7))) = ρ1 at s1 R1
  generalize μ ++ [solC (μ.length + 1) (μ.length + 2), .dic [], .lst [], .dic [], .dic [], .lst [.ref (μ.length + 3), .ref (μ.length + 4), .int 0], .lst [], .lst []] = μ1 at s1 G1
  rw [seq s1, one]
  have src : evSrc Γ0 (.range1 (.lit (.int 14))) ρ1 μ1 = some (.items (rangeD 0 14), μ1) := by
    unfold evSrc
    simp only [evE, Option.bind_some]
    rw [if_pos (by decide)]; rfl
  unfold lStep
  simp only [evS, src, Option.bind_some]
  exact steps_ok _ 0 _ _ R1 G1 (by rw [rg0]; decide)
theorem laps_ok (ha : AllI cs) : ∀ (ds : List D) (ρ : Slots) (μ : Store), ρ.length = 24 → slotD ρ 1 = some (.ref 0) → BagAt μ 0 cs → Wk cs (loopF (fun x ρ μ => (asgT (.nm 2) x ρ).bind fun ρ' => evSs Γ0 (.cons lNew (.cons lStep .nil)) ρ' μ) ds ρ μ)
  | [], ρ, μ, hl, h1, hb => ⟨ρ, μ, rfl, hl, h1, hb⟩
  | d :: ds, ρ, μ, hl, h1, hb => by
    have a : asgT (.nm 2) d ρ = some (ρ.set 2 (.val d)) := by simp [asgT, hl]
    unfold loopF
    rw [a, Option.bind_some]
    obtain ⟨ρ2, μ2, e, l2, h2, b2⟩ := lap_ok (ρ := ρ.set 2 (.val d)) (by simp [hl]) (by rw [slot_off (by decide)]; exact h1) hb ha
    rw [e]
    exact laps_ok ha ds ρ2 μ2 l2 h2 b2
end
theorem plain (ns : List Int) (hn : ns.length ≤ 63) : ∃ μ, run fs 60 27 [.lst (ns.map .int)] [] = some (.bl true, μ) := by
  obtain ⟨cs, e, ha⟩ := bag_at (fs := fs) (b := 15) (k := 58) (μ := []) (ns := ns) (i := 0) rfl hn
  have e : run fs 59 15 [.lst (ns.map .int)] [] = some (.ref 0, [bagC 0 1234567891 0 cs]) := e
  rw [run_eq (k := 59) (F := ⟨1, 24, b27⟩) rfl rfl, b27_eq]
  show ∃ μ, retOf (evSs Γ0 _ _ _) = _
  have hl : (start0 ⟨1, 24, (.cons wBag (.cons wLap (.cons wTh (.cons wRet .nil))))⟩ [.lst (ns.map .int)]).length = 24 := by simp [start0]
  have h0 : slotD (start0 ⟨1, 24, (.cons wBag (.cons wLap (.cons wTh (.cons wRet .nil))))⟩ [.lst (ns.map .int)]) 0 = some (.lst (ns.map .int)) := rfl
  generalize start0 ⟨1, 24, (.cons wBag (.cons wLap (.cons wTh (.cons wRet .nil))))⟩ [.lst (ns.map .int)] = ρ at hl h0
  have s1 : evS Γ0 wBag ρ [] = some (.nx, ρ.set 1 (.val (.ref 0)), [bagC 0 1234567891 0 cs]) :=
    set_ev (by simp [evE, evEs, evO, evC, evF, evSrc, evIn, evS, evSs, Option.bind_some, Option.map_some, Option.bind_none, Option.map_none, List.map_cons, List.map_nil, slot_c0, slot_cs, own_c0, own_cs, ownv_c0, ownv_cs, ownt_c0, tup_c0, tup_cs, view_int, view_str, view_bl, view_non, view_tup, view_lst, view_ty, view_fn, p_bin, p_neg, p_cmp, p_ix, p_len_tup, p_len_lst, p_abs, p_int, p_intb, p_isi, p_tuple_tup, p_tuple_lst, p_max, p_min, b_add_int, b_sub_int, c_lt, c_le, c_gt, c_ge, c_eq, c_ne, ix_tup, ix_lst, at0, at1, at2, at3, at4, at5, eq_int, eq_str, eq_bl, truD, set_c0, set_cs, setS_c, isi_tuple_tup, isi_tuple_lst, isi_tuple_str, isi_tuple_int, isi_tuple_non, isi_tuple_bl, isi_str_str, isi_str_tup, isi_str_int, isi_str_non, isi_str_lst, isi_str_bl, if_true_, if_false_, h0, Γf, e]) (by omega)
  rw [seq s1]
  have src : ∀ ρ μ, evSrc Γ0 (.range1 (.lit (.int 8))) ρ μ = some (.items (rangeD 0 8), μ) := fun ρ μ => by
    unfold evSrc
    simp only [evE, Option.bind_some]
    rw [if_pos (by decide)]; rfl
  obtain ⟨ρ2, μ2, e2, l2, h2, b2⟩ := laps_ok ha (rangeD 0 8) (ρ.set 1 (.val (.ref 0))) [bagC 0 1234567891 0 cs] (by simp [hl]) (slot_on (by omega)) ⟨0, 1234567891, 0, rfl⟩
  have s2 : evS Γ0 wLap (ρ.set 1 (.val (.ref 0))) [bagC 0 1234567891 0 cs] = some (.nx, ρ2, μ2) := by
    unfold wLap
    simp only [evS, src, Option.bind_some]
    exact e2
  rw [seq s2]
  obtain ⟨x0, x1, x2, x3, x4, x5, x6, x7, x8, x9, x10, x11, x12, x13, x14, x15, x16, x17, x18, x19, x20, x21, x22, x23, rfl⟩ := l24 l2
  have t := th_all (x0 := x0) (x1 := x1) (x2 := x2) (x3 := x3) (x4 := x4) (x5 := x5) (x6 := x6) (x7 := x7) (x8 := x8) (x9 := x9) (x10 := x10) (x11 := x11) (x12 := x12) (x13 := x13) (x14 := x14) (x15 := x15) (x16 := x16) (x17 := x17) (x18 := x18) (x19 := x19) (x20 := x20) (x21 := x21) (x22 := x22) (x23 := x23) (μ := μ2)
  generalize [x0, x1, x2, x3, x4, x5, x6, x7, x8, x9, x10, x11, x12, x13, x14, x15, x16, x17, x18, x19, x20, x21, x22, x23] = ρ2 at t
  obtain ⟨ρ3, e3⟩ : ∃ ρ3, loopF (fun x ρ μ => (asgT (.nm 20) x ρ).bind fun ρ' => evSs Γ0 thB ρ' μ) thL ρ2 μ2 = some (.nx, ρ3, μ2) := by
    cases h : loopF (fun x ρ μ => (asgT (.nm 20) x ρ).bind fun ρ' => evSs Γ0 thB ρ' μ) thL ρ2 μ2 with
    | none => rw [h] at t; cases t
    | some r =>
      rw [h] at t
      obtain ⟨r1, r2, r3⟩ := r
      cases t
      exact ⟨r2, rfl⟩
  have src3 : evSrc Γ0 (.it (.frz (.disp (.cons (.lit .non) (.cons (.lit (.str "number")) (.cons (.lit (.str "text")) (.cons (.lit (.str "truth")) (.cons (.lit (.str "row")) (.cons (.tup (.cons (.lit (.str "row")) (.cons (.lit (.str "number")) .nil))) (.cons (.tup (.cons (.lit (.str "row")) (.cons (.tup (.cons (.lit (.str "row")) (.cons (.lit (.str "text")) .nil))) .nil))) (.cons (.tup (.cons (.lit (.str "some")) (.cons (.lit (.int 0)) .nil))) (.cons (.tup (.cons (.lit (.str "row")) (.cons (.tup (.cons (.lit (.str "some")) (.cons (.lit (.int 0)) .nil))) .nil))) (.cons (.tup (.cons (.lit (.str "row")) .nil)) (.cons (.frz (.disp (.cons (.lit (.str "row")) (.cons (.lit (.str "number")) .nil)))) (.cons (.lit (.int 1)) (.cons (.tup .nil) .nil)))))))))))))))) ρ2 μ2 = some (.items thL, μ2) := by
    kernel_rfl
  have s3 : evS Γ0 wTh ρ2 μ2 = some (.nx, ρ3, μ2) := by
    unfold wTh
    simp only [evS, src3, Option.bind_some]
    exact e3
  rw [seq s3]
  exact ⟨μ2, rfl⟩
end FH.K06
end
open PySem PySem.W PyProof.Rows
set_option maxHeartbeats 0 in
theorem PySem.Challenge.cw_formulahall_k06_whole_kinds_led_together_holds : PySem.Challenge.rw_formulahall_k06_whole_kinds_led_together.Holds := by
  w_on; o_law; k_head; (case hw => w_witness2)
  k_fill
  refine FH.walk_fh (l := PySem.Challenge.rw_formulahall_k06_whole_kinds_led_together) (n := 63) (T := FH.K06.prg.T) (fs := FH.K06.prg.fs) (k := 60) (i := 27) rfl (by decide) rfl ⟨rfl, by decide, by decide⟩ ?F FH.K06.plain
  case F =>
    intro w mg fa h Y G name
    exact FH.head_fh (P := FH.K06.prg) (x := "law") FH.K06.at_ok FH.K06.ok_ok FH.K06.bnd_ok (FH.fnG_ok (by decide +kernel)) (PySem.W.kIn_of Y) G name (by show He.obsT _ _ _ _ = He.valT _ _ _; kernel_rfl) (by kernel_rfl)
