import PyProof.Rows.All
import Wide.All
import OpenK.AllK
import Wide.FinOn
import HandS.Base
import HandS.Call
import HandS.List
import HandS.Comp
import HandS.Flow
import HandS.IsInst
import HandS.Text
import HandS.StrMore
import HandS.TupAny
import HandS.Deep
import HandS.RaiseMore
import HandS.Exc
import HandS.ExcOwn
import HandS.CallSlots
import HandS.Iter
import HandS.Codes
import HandS.TryOnly
import KE.SortData
import HandS.SetFor
import HandS.TupSets
import HandS.Strs
import HandS.Head0
import HandS.Head1
import HandS.Head2
import HandS.HeadEnd
import HandS.HeadHook1
import HandS.HeadHook2
import HandS.HeadHook3
import HandS.HeadWalk
import PySem.Challenge.RW_everyregular_k51_faulty_texts_of_values
set_option Elab.async false
set_option linter.all false
set_option maxRecDepth 100000
/-! MP1: data, the small language, its evaluator. -/
namespace MP
open PySem

/-- data without addresses -/
inductive P where
  | non | bl (b : Bool) | int (i : Int) | str (x : Str) | tup (l : List P) | lst (l : List P)
  deriving Inhabited
/-- a value of a name: data, or a live object by its place in the store -/
inductive W where
  | p (x : P) | ref (n : Nat)
  /-- the script: a list from outside -/
  | scr (l : List P)
  deriving Inhabited
/-- what stands in the store -/
inductive Ob where
  | lst (l : List P) | ins (c : Str) (fs : List (Str × W))
  deriving Inhabited
abbrev Sto := List Ob
abbrev Loc := List (Option W)
structure Exn where
  cls : Str
  fs : List (Str × P)
inductive Res (α : Type) where
  | ok (a : α) (S : Sto) | ex (e : Exn) (S : Sto) | bad
namespace Res
def bind {α β : Type} : Res α → (α → Sto → Res β) → Res β
  | .ok a S, f => f a S
  | .ex e S, _ => .ex e S
  | .bad, _ => .bad
end Res
def ofO {α : Type} (o : Option α) (S : Sto) : Res α := match o with
  | some a => .ok a S
  | none => .bad

mutual
/-- nesting -/
def P.depth : P → Nat
  | .tup l => P.depths l + 1
  | .lst l => P.depths l + 1
  | _ => 0
def P.depths : List P → Nat
  | [] => 0
  | x :: xs => max (P.depth x) (P.depths xs)
end
mutual
/-- == -/
def peq : P → P → Bool
  | .non, .non => true
  | .bl a, .bl b => a == b
  | .bl a, .int j => (if a then 1 else 0) == j
  | .int i, .bl b => i == (if b then 1 else 0)
  | .int i, .int j => i == j
  | .str x, .str y => x == y
  | .lst xs, .lst ys => peqs xs ys
  | .tup xs, .tup ys => peqs xs ys
  | _, _ => false
def peqs : List P → List P → Bool
  | [], [] => true
  | x :: xs, y :: ys => peq x y && peqs xs ys
  | _, _ => false
end
def P.ints? : List P → Option (List Int)
  | [] => some []
  | .int i :: r => (P.ints? r).map (i :: ·)
  | _ :: _ => none
def P.bls? : List P → Option (List Bool)
  | [] => some []
  | .bl b :: r => (P.bls? r).map (b :: ·)
  | _ :: _ => none
def P.strs? : List P → Option (List Str)
  | [] => some []
  | .str b :: r => (P.strs? r).map (b :: ·)
  | _ :: _ => none
def P.items? : P → Option (List P)
  | .tup l => some l
  | .lst l => some l
  | _ => none
def P.flat : P → Bool
  | .tup _ => false
  | .lst _ => false
  | _ => true
def P.okd (p : P) : Bool := decide (p.depth ≤ 60)
def truth (p : P) : Option Bool := match p with
  | .non => some false
  | .bl b => some b
  | .int i => some (i != 0)
  | .str x => if x.length ≤ sizeLine then some (x.length != 0) else none
  | .tup l => some (!l.isEmpty)
  | .lst l => some (!l.isEmpty)

inductive BOp where | add | sub | mul | fdiv | mod
  deriving DecidableEq
inductive COp where | eq | ne | lt | le | gt | ge | is_ | isnot | in_ | notin
  deriving DecidableEq
inductive Ty where | int | bool | str | tuple | list
  deriving DecidableEq
inductive BF where | len | all | any | int | tuple | str
  deriving DecidableEq

def cut (n : Nat) (l : List P) : Option (List P) := if l.length ≤ n then some l else none
def bop : BOp → P → P → Option P
  | .add, .int i, .int j => some (.int (i + j))
  | .add, .str x, .str y => if x.length + y.length ≤ sizeLine then some (.str (x ++ y)) else none
  | .add, .tup l, .tup m => if l.length + m.length ≤ sizeLine then some (.tup (l ++ m)) else none
  | .add, .lst l, .lst m => if l.length + m.length ≤ sizeLine then some (.lst (l ++ m)) else none
  | .sub, .int i, .int j => some (.int (i - j))
  | .mul, .int i, .int j => if (-(2 ^ 64) < i ∧ i < 2 ^ 64) ∨ (-(2 ^ 64) < j ∧ j < 2 ^ 64) then some (.int (i * j)) else none
  | .mul, .str x, .int n => if x.length ≤ 16 ∧ 0 ≤ n ∧ n ≤ 1048576 then some (.str (Txt.mul x n)) else none
  | .fdiv, .int i, .int j => if 0 < j ∧ j < 1073741824 then some (.int (i / j)) else none
  | .mod, .int i, .int j => if 0 < j then some (.int (i % j)) else none
  | _, _, _ => none
def isNon : P → Bool
  | .non => true
  | _ => false
def has (x : P) : List P → Bool
  | [] => false
  | y :: r => peq y x || has x r
def cop : COp → P → P → Option Bool
  | .eq, a, b => if a.okd && b.okd then some (peq a b) else none
  | .ne, a, b => if a.okd && b.okd then some (!peq a b) else none
  | .lt, .int i, .int j => some (decide (i < j))
  | .le, .int i, .int j => some (decide (i ≤ j))
  | .gt, .int i, .int j => some (decide (j < i))
  | .ge, .int i, .int j => some (decide (j ≤ i))
  | .lt, .tup l, .tup m => (P.ints? l).bind fun ns => (P.ints? m).map fun ms => HT.lexLt ns ms
  | .is_, a, .non => some (isNon a)
  | .isnot, a, .non => some (!isNon a)
  | .in_, .str x, .str y => match x.cps.toList with
    | [c] => some (decide (c ∈ y.cps.toList))
    | _ => none
  | .notin, .str x, .str y => match x.cps.toList with
    | [c] => some (!decide (c ∈ y.cps.toList))
    | _ => none
  | .in_, a, .tup l => if a.okd && (P.tup l).okd then some (has a l) else none
  | .in_, a, .lst l => if a.okd && (P.lst l).okd then some (has a l) else none
  | .notin, a, .tup l => if a.okd && (P.tup l).okd then some (!has a l) else none
  | .notin, a, .lst l => if a.okd && (P.lst l).okd then some (!has a l) else none
  | _, _, _ => none
def isT : Ty → P → Bool
  | .int, .int _ => true
  | .int, .bl _ => true
  | .bool, .bl _ => true
  | .str, .str _ => true
  | .tuple, .tup _ => true
  | .list, .lst _ => true
  | _, _ => false
def bfn : BF → List P → Option P
  | .len, [.tup l] => some (.int l.length)
  | .len, [.lst l] => some (.int l.length)
  | .len, [.str x] => if x.length ≤ sizeLine then some (.int x.length) else none
  | .all, [.lst l] => (P.bls? l).map fun bs => .bl (bs.all id)
  | .any, [.lst l] => (P.bls? l).map fun bs => .bl (bs.any id)
  | .int, [.int i] => some (.int i)
  | .int, [.bl b] => some (.int (if b then 1 else 0))
  | .int, [.str a] => if a.length ≤ 640 then (intText? a).map .int else none
  | .str, [.int i] => if i.natAbs.log2 < 1920 then some (.str (Str.ofString (toString i))) else none
  | .str, [.str a] => some (.str a)
  | .tuple, [.lst l] => some (.tup l)
  | .tuple, [.tup l] => some (.tup l)
  | _, _ => none
/-- a[i] -/
def pidx : P → P → Option P
  | .tup l, .int i => L2.atI l i
  | .lst l, .int i => L2.atI l i
  | .str x, .int i => if x.length ≤ sizeLine then (L2.atI x.cps.toList i).map fun c => .str ⟨#[c]⟩ else none
  | _, _ => none
def cutP (xs : List P) (lo hi : Option Int) : List P := (xs.drop (HT.sIx xs.length 0 lo)).take (HT.sIx xs.length xs.length hi - HT.sIx xs.length 0 lo)
def pslc : P → Option Int → Option Int → Option P
  | .tup l, lo, hi => some (.tup (cutP l lo hi))
  | .lst l, lo, hi => some (.lst (cutP l lo hi))
  | .str z, lo, hi => if z.length ≤ sizeLine then some (.str (L2.cutS z lo hi)) else none
  | _, _, _ => none
def chars (x : Str) : List P := x.cps.toList.map fun c => .str ⟨#[c]⟩
/-- what is walked -/
def walk : P → Option (List P)
  | .tup l => some l
  | .lst l => some l
  | .str x => some (chars x)
  | _ => none
def rangeP (lo : Int) (n : Nat) : List P := (List.range n).map fun k => .int (lo + (k : Nat))
def inR (i : Int) : Bool := decide (-(2 ^ 62) ≤ i) && decide (i < 2 ^ 62)
def rng1 : P → Option (List P)
  | .int j => if inR j then some (rangeP 0 j.toNat) else none
  | _ => none
def rng2 : P → P → Option (List P)
  | .int i, .int j => if inR i && inR j then some (rangeP i (j - i).toNat) else none
  | _, _ => none

mutual
inductive ME where
  | var (i : Nat)
  | glo (x : Str) (q : P)
  | lit (q : P)
  | tup (es : MEs)
  | lst (es : MEs)
  | bin (op : BOp) (a b : ME)
  | neg (a : ME)
  | cmp (op : COp) (a b : ME)
  | cmp2 (op op' : COp) (a b c : ME)
  | not (a : ME)
  | and (a b : ME)
  | or (a b : ME)
  | ife (t : MT) (a b : ME)
  | isi (a : ME) (T : Ty)
  /-- list(a) -/
  | lof (a : ME)
  | bif (f : BF) (es : MEs)
  | call (f : Str) (es : MEs)
  | idx (a b : ME)
  | slc (a : ME) (lo hi : MO)
  | comp (own : List Nat) (tg : MG) (src : MI) (tt : MT) (elt : ME)
  /-- o.f -/
  | att (o : ME) (f : Str)
  /-- o.m(..) -/
  | mth (o : ME) (m : Str) (es : MEs)
  /-- c(..) -/
  | mk (c : Str) (es : MEs)
  /-- x.join(a) -/
  | join (x : Str) (a : ME)
  /-- sorted(set(a)) -/
  | srt (a : ME)
inductive MEs where
  | nil | cons (e : ME) (es : MEs)
/-- a test; yes: none is asked -/
inductive MT where
  | val (e : ME) | not (t : MT) | and (t u : MT) | or (t u : MT) | ife (t u v : MT) | yes
/-- an expression or none -/
inductive MO where
  | non | som (e : ME)
inductive MI where
  | ex (e : ME) | r1 (a : ME) | r2 (a b : ME)
/-- a target -/
inductive MG where
  | name (i : Nat) | names (is : List Nat)
end

/-- data of a value as it stands -/
def rd (S : Sto) : W → Option P
  | .p x => some x
  | .ref n => match S[n]? with
    | some (.lst l) => some (.lst l)
    | _ => none
  | .scr _ => none
/-- the items of a list or tuple as it stands, the script's too -/
def rdL (S : Sto) : W → Option (List P)
  | .scr l => some l
  | w => (rd S w).bind P.items?
def pures (S : Sto) : List W → Option (List P)
  | [] => some []
  | .p x :: r => (pures S r).map (x :: ·)
  | _ :: _ => none
def rds (S : Sto) : List W → Option (List P)
  | [] => some []
  | w :: r => (rd S w).bind fun x => (rds S r).map (x :: ·)
def wipe (L : Loc) : List Nat → Loc
  | [] => L
  | v :: vs => (wipe L vs).set v none
def setAll (L : Loc) : List Nat → List P → Option Loc
  | [], [] => some L
  | i :: is, x :: xs => setAll (L.set i (some (.p x))) is xs
  | _, _ => none
def bindT (L : Loc) : MG → P → Option Loc
  | .name i, x => some (L.set i (some (.p x)))
  | .names is, .tup l => setAll L is l
  | .names _, _ => none
/-- the defs as they are called -/
structure Cl where
  fn : Str → List W → Sto → Res W
  /-- a class's method -/
  met : Str → Str → List W → Sto → Res W := fun _ _ _ _ => .bad
  /-- __init__ of a class -/
  ini : Str → List W → Sto → Res W := fun _ _ _ => .bad
  /-- is the class under the other? -/
  sub : Str → Str → Option Bool := fun _ _ => none
  /-- has the class the method? -/
  hasM : Str → Str → Bool := fun _ _ => false
def attOf (S : Sto) (f : Str) : W → Option W
  | .ref n => match S[n]? with
    | some (.ins _ fs) => fs.lookup f
    | _ => none
  | _ => none
def clsOf (S : Sto) (m : Str) : W → Option Str
  | .ref n => match S[n]? with
    | some (.ins c fs) => if (fs.lookup m).isNone then some c else none
    | _ => none
  | _ => none
def insBy {α : Type} (lt : α → α → Bool) (x : α) : List α → List α
  | [] => [x]
  | y :: r => if lt x y = true then x :: y :: r else if lt y x = true then y :: insBy lt x r else y :: r
/-- sorted, each once -/
def sortBy {α : Type} (lt : α → α → Bool) (l : List α) : List α := l.foldr (insBy lt) []
def ltI (a b : Int) : Bool := decide (a < b)
def ltT (a b : List Int) : Bool := decide (a < b)
def P.tups? : List P → Option (List (List Int))
  | [] => some []
  | .tup t :: r => (P.ints? t).bind fun ns => (P.tups? r).map (ns :: ·)
  | _ :: _ => none
def srtP : P → Option P
  | .lst l => if l.length < 64 then (match P.ints? l with
    | some ns => some (.lst ((sortBy ltI ns).map .int))
    | none => (P.tups? l).map fun ts => .lst ((sortBy ltT ts).map fun t => .tup (t.map .int))) else none
  | _ => none
def joinP (x : Str) : P → Option P
  | .lst l => (P.strs? l).bind fun ys => if (ys.map (·.length)).sum + ys.length * x.length ≤ 16777216 then some (.str (Str.join x ys)) else none
  | _ => none

/-- [..] over the items -/
def compF (turn : P → Sto → Res (Option P)) : List P → List P → Sto → Res (List P)
  | [], acc, S => .ok acc S
  | x :: xs, acc, S => (turn x S).bind fun y S => match y with
    | none => compF turn xs acc S
    | some y => if acc.length < sizeLine then compF turn xs (acc ++ [y]) S else .bad
/-- an exception can't leave -/
def noEx {α : Type} : Res α → Res α
  | .ex _ _ => .bad
  | r => r

mutual
def ev (C : Cl) : ME → Loc → Sto → Res W
  | .var i, L, S => (match L[i]? with
    | some (some w) => .ok w S
    | _ => .bad)
  | .glo _ q, _, S => .ok (.p q) S
  | .lit q, _, S => .ok (.p q) S
  | .tup es, L, S => (evs C es L S).bind fun ws S => ofO ((pures S ws).bind fun l => (cut sizeLine l).map fun l => W.p (.tup l)) S
  | .lst es, L, S => (evs C es L S).bind fun ws S => ofO ((pures S ws).bind fun l => (cut sizeLine l).map fun l => W.p (.lst l)) S
  | .bin op a b, L, S => (ev C a L S).bind fun x S => (ev C b L S).bind fun y S => ofO ((rd S x).bind fun p => (rd S y).bind fun q => (bop op p q).map W.p) S
  | .neg a, L, S => (ev C a L S).bind fun x S => (match x with
    | .p (.int i) => .ok (.p (.int (-i))) S
    | _ => .bad)
  | .cmp op a b, L, S => (ev C a L S).bind fun x S => (ev C b L S).bind fun y S => ofO ((rd S x).bind fun p => (rd S y).bind fun q => (cop op p q).map fun k => W.p (.bl k)) S
  | .cmp2 op op' a b c, L, S => (ev C a L S).bind fun x S => (ev C b L S).bind fun y S => (match (rd S x).bind fun p => (rd S y).bind fun q => cop op p q with
    | some true => (ev C c L S).bind fun z S => ofO ((rd S y).bind fun p => (rd S z).bind fun q => (cop op' p q).map fun k => W.p (.bl k)) S
    | some false => .ok (.p (.bl false)) S
    | none => .bad)
  | .not a, L, S => (ev C a L S).bind fun x S => ofO ((rd S x).bind fun p => (truth p).map fun k => W.p (.bl (!k))) S
  | .and a b, L, S => (ev C a L S).bind fun x S => (match (rd S x).bind truth with
    | some true => ev C b L S
    | some false => .ok x S
    | none => .bad)
  | .or a b, L, S => (ev C a L S).bind fun x S => (match (rd S x).bind truth with
    | some true => .ok x S
    | some false => ev C b L S
    | none => .bad)
  | .ife t a b, L, S => (evT C t L S).bind fun k S => if k = true then ev C a L S else ev C b L S
  | .isi a T, L, S => (ev C a L S).bind fun x S => ofO ((rd S x).map fun p => W.p (.bl (isT T p))) S
  | .bif f es, L, S => (evs C es L S).bind fun ws S => ofO ((rds S ws).bind fun l => (bfn f l).map W.p) S
  | .call f es, L, S => (evs C es L S).bind fun ws S => C.fn f ws S
  | .idx a b, L, S => (ev C a L S).bind fun x S => (ev C b L S).bind fun y S => ofO ((rd S x).bind fun p => (rd S y).bind fun q => (pidx p q).map W.p) S
  | .slc a lo hi, L, S => (ev C a L S).bind fun x S => (evO C lo L S).bind fun l S => (evO C hi L S).bind fun u S => (match x with
    | .scr m => .ok (.p (.lst (cutP m l u))) S
    | x => ofO ((rd S x).bind fun p => (pslc p l u).map W.p) S)
  | .lof a, L, S => (ev C a L S).bind fun x S => ofO ((rdL S x).map fun l => W.p (.lst l)) S
  | .comp own tg src tt elt, L, S => (evI C src L S).bind fun l S => noEx ((compF (fun x S => match bindT (wipe L own) tg x with
    | none => .bad
    | some L2 => (evT C tt L2 S).bind fun k S => if k = true then (ev C elt L2 S).bind fun y S => (match y with
        | .p y => .ok (some y) S
        | _ => .bad) else .ok none S) l [] S).bind fun r S => .ok (W.p (.lst r)) S)
  | .att o f, L, S => (ev C o L S).bind fun x S => ofO (attOf S f x) S
  | .mth o m es, L, S => (ev C o L S).bind fun x S => (match clsOf S m x with
    | some c => if C.hasM c m = true then (evs C es L S).bind fun ws S => C.met c m (x :: ws) S else .bad
    | none => .bad)
  | .mk c es, L, S => (evs C es L S).bind fun ws S => (C.ini c (.ref S.length :: ws) (S ++ [.ins c []])).bind fun w S' => (match w with
    | .p .non => .ok (.ref S.length) S'
    | _ => .bad)
  | .join x a, L, S => (ev C a L S).bind fun w S => ofO ((rd S w).bind fun p => (joinP x p).map W.p) S
  | .srt a, L, S => (ev C a L S).bind fun w S => ofO ((rd S w).bind fun p => (srtP p).map W.p) S
def evs (C : Cl) : MEs → Loc → Sto → Res (List W)
  | .nil, _, S => .ok [] S
  | .cons e es, L, S => (ev C e L S).bind fun w S => (evs C es L S).bind fun ws S => .ok (w :: ws) S
/-- a test -/
def evT (C : Cl) : MT → Loc → Sto → Res Bool
  | .yes, _, S => .ok true S
  | .not t, L, S => (evT C t L S).bind fun k S => .ok (!k) S
  | .and t u, L, S => (evT C t L S).bind fun k S => if k = true then evT C u L S else .ok false S
  | .or t u, L, S => (evT C t L S).bind fun k S => if k = true then .ok true S else evT C u L S
  | .ife t u v, L, S => (evT C t L S).bind fun k S => if k = true then evT C u L S else evT C v L S
  | .val e, L, S => (ev C e L S).bind fun x S => ofO ((rd S x).bind truth) S
/-- a slice's part -/
def evO (C : Cl) : MO → Loc → Sto → Res (Option Int)
  | .non, _, S => .ok none S
  | .som e, L, S => (ev C e L S).bind fun x S => (match x with
    | .p (.int i) => .ok (some i) S
    | _ => .bad)
def evI (C : Cl) : MI → Loc → Sto → Res (List P)
  | .ex e, L, S => (ev C e L S).bind fun x S => (match x with
    | .p p => ofO (walk p) S
    | _ => .bad)
  | .r1 a, L, S => (ev C a L S).bind fun x S => ofO ((rd S x).bind rng1) S
  | .r2 a b, L, S => (ev C a L S).bind fun x S => (ev C b L S).bind fun y S => ofO ((rd S x).bind fun p => (rd S y).bind fun q => rng2 p q) S
end

/-! ### statements -/
mutual
inductive MS where
  | set (t : TG) (e : ME)
  | new (i : Nat) (e : ME)
  | aug (i : Nat) (op : BOp) (e : ME)
  | expr (e : ME)
  | app (o e : ME)
  | ret (e : ME)
  /-- return e, a new list that stays live -/
  | retL (e : ME)
  | retN
  | ifs (t : MT) (a b : MSs)
  | whl (t : MT) (b : MSs)
  | for_ (tg : MG) (src : MI) (b : MSs)
  | brk | cnt | pass
  /-- raise c(e): no fields; raise c(..), the fields that it has then -/
  | raise (c : Str) (e : ME)
  | raiseF (c : Str) (fs : List Str) (es : MEs)
  /-- o.f = e, o.f += e -/
  | fset (o : ME) (f : Str) (e : ME)
  | faug (o : ME) (f : Str) (e : ME)
  /-- try: b / except c: return q -/
  | tryR (b : MSs) (c : Str) (q : P)
  /-- try: b / except c as e: return (e.f, ..) -/
  | tryF (b : MSs) (c : Str) (fs : List Str)
inductive MSs where
  | nil | cons (s : MS) (r : MSs)
/-- a target of an assignment -/
inductive TG where
  | g (t : MG) | sub (o i : ME)
end
inductive Out where
  | nx (L : Loc) | ret (w : W) | brk (L : Loc) | cnt (L : Loc) | exc (e : Exn) (L : Loc)
abbrev XR := Option (Out × Sto)
def lft {α : Type} (L : Loc) (r : Res α) (k : α → Sto → XR) : XR := match r with
  | .ok a S => k a S
  | .ex e S => some (.exc e L, S)
  | .bad => none
def whlF (t : Loc → Sto → Res Bool) (b : Loc → Sto → XR) : Nat → Loc → Sto → XR
  | 0, _, _ => none
  | n + 1, L, S => lft L (t L S) fun k S => if k = true then (match b L S with
    | some (.nx L', S') => whlF t b n L' S'
    | some (.cnt L', S') => whlF t b n L' S'
    | some (.brk L', S') => some (.nx L', S')
    | r => r) else some (.nx L, S)
def forF (tg : MG) (b : Loc → Sto → XR) : List P → Loc → Sto → XR
  | [], L, S => some (.nx L, S)
  | x :: xs, L, S => match bindT L tg x with
    | none => none
    | some L2 => match b L2 S with
      | some (.nx L', S') => forF tg b xs L' S'
      | some (.cnt L', S') => forF tg b xs L' S'
      | some (.brk L', S') => some (.nx L', S')
      | r => r
/-- the turns that a while may take -/
def fuel : Nat := 1000000000
/-- op= -/
def iopP (op : BOp) (p q : P) : Option P := match p, q with
  | .int i, .int j => bop op (.int i) (.int j)
  | _, _ => none
/-- o[i] = x -/
def putAt (S : Sto) (n : Nat) (i : Int) (x : P) : Option Sto := match S[n]? with
  | some (.lst l) => (L2.ixN l.length i).map fun j => S.set n (.lst (l.set j x))
  | _ => none
def pushAt (S : Sto) (n : Nat) (x : P) : Option Sto := match S[n]? with
  | some (.lst l) => if l.length < sizeLine then some (S.set n (.lst (l ++ [x]))) else none
  | _ => none
def clsAt (S : Sto) : W → Option Str
  | .ref n => match S[n]? with
    | some (.ins c _) => some c
    | _ => none
  | _ => none
/-- o.f = w -/
def setF (f : Str) (w : W) : List (Str × W) → List (Str × W)
  | [] => [(f, w)]
  | (g, v) :: r => if g = f then (g, w) :: r else (g, v) :: setF f w r
def putF (S : Sto) (f : Str) (w : W) : W → Option Sto
  | .ref n => match S[n]? with
    | some (.ins c fs) => if fs.length < 100 then some (S.set n (.ins c (setF f w fs))) else none
    | _ => none
  | _ => none
mutual
def exs (C : Cl) : MS → Loc → Sto → XR
  | .set t e, L, S => lft L (ev C e L S) fun w S => exG C t w L S
  | .new i e, L, S => lft L (ev C e L S) fun w S => (match w with
    | .p (.lst l) => some (.nx (L.set i (some (.ref S.length))), S ++ [.lst l])
    | _ => none)
  | .aug i op e, L, S => (match L[i]? with
    | some (some (.p p)) => lft L (ev C e L S) fun w S => (match (rd S w).bind fun q => iopP op p q with
      | some r => some (.nx (L.set i (some (.p r))), S)
      | none => none)
    | _ => none)
  | .expr e, L, S => lft L (ev C e L S) fun _ S => some (.nx L, S)
  | .app o e, L, S => lft L (ev C o L S) fun w S => (match w with
    | .ref n => (match S[n]? with
      | some (.lst _) => lft L (ev C e L S) fun v S => (match v with
        | .p x => (match pushAt S n x with
          | some S => some (.nx L, S)
          | none => none)
        | _ => none)
      | _ => none)
    | _ => none)
  | .ret e, L, S => lft L (ev C e L S) fun w S => some (.ret w, S)
  | .retL e, L, S => lft L (ev C e L S) fun w S => (match w with
    | .p (.lst l) => some (.ret (.ref S.length), S ++ [.lst l])
    | _ => none)
  | .retN, L, S => some (.ret (.p .non), S)
  | .ifs t a b, L, S => lft L (evT C t L S) fun k S => if k = true then exss C a L S else exss C b L S
  | .whl t b, L, S => whlF (evT C t) (exss C b) fuel L S
  | .for_ tg src b, L, S => lft L (evI C src L S) fun l S => forF tg (exss C b) l L S
  | .brk, L, S => some (.brk L, S)
  | .cnt, L, S => some (.cnt L, S)
  | .pass, L, S => some (.nx L, S)
  | .raise c e, L, S => lft L (ev C e L S) fun _ S => some (.exc ⟨c, []⟩ L, S)
  | .raiseF c fs es, L, S => lft L (evs C es L S) fun ws S => (match pures S ws with
    | some l => if fs.length = l.length then some (.exc ⟨c, fs.zip l⟩ L, S) else none
    | none => none)
  | .fset o f e, L, S => lft L (ev C e L S) fun w S => lft L (ev C o L S) fun v S => (match putF S f w v with
    | some S => some (.nx L, S)
    | none => none)
  | .faug o f e, L, S => lft L (ev C o L S) fun v S => (match attOf S f v with
    | some (.p (.int i)) => lft L (ev C e L S) fun w S' => (match w with
      | .p (.int j) => if clsAt S v = clsAt S' v then (match putF S' f (.p (.int (i + j))) v with
        | some S' => some (.nx L, S')
        | none => none) else none
      | _ => none)
    | _ => none)
  | .tryR b c q, L, S => (match exss C b L S with
    | some (.exc e L', S') => (match C.sub e.cls c with
      | some true => some (.ret (.p q), S')
      | some false => some (.exc e L', S')
      | none => none)
    | r => r)
  | .tryF b c fs, L, S => (match exss C b L S with
    | some (.exc e L', S') => (match C.sub e.cls c with
      | some true => (match fs.mapM fun f => e.fs.lookup f with
        | some l => some (.ret (.p (.tup l)), S')
        | none => none)
      | some false => some (.exc e L', S')
      | none => none)
    | r => r)
def exss (C : Cl) : MSs → Loc → Sto → XR
  | .nil, L, S => some (.nx L, S)
  | .cons s r, L, S => match exs C s L S with
    | some (.nx L', S') => exss C r L' S'
    | r => r
def exG (C : Cl) : TG → W → Loc → Sto → XR
  | .g (.name i), w, L, S => some (.nx (L.set i (some w)), S)
  | .g (.names is), w, L, S => (match rd S w with
    | some p => (match bindT L (.names is) p with
      | some L => some (.nx L, S)
      | none => none)
    | none => none)
  | .sub o i, w, L, S => (match w with
    | .p x => lft L (ev C o L S) fun ov S => lft L (ev C i L S) fun iv S => (match ov, iv with
      | .ref n, .p (.int i) => (match putAt S n i x with
        | some S => some (.nx L, S)
        | none => none)
      | _, _ => none)
    | _ => none)
end
/-- a def -/
structure MF where
  par : Nat
  slots : Nat
  body : MSs
  live : Bool := false
def startL (f : MF) (as : List W) : Loc := as.map some ++ List.replicate (f.slots - as.length) none
def closedO (k : Nat) : Ob → Bool
  | .lst _ => true
  | .ins _ fs => fs.all fun f => match f.2 with
    | .ref n => decide (n < k)
    | _ => true
/-- the store without the callee's own -/
def trimS (k : Nat) (S : Sto) : Option Sto := if (S.take k).all (closedO k) = true then some (S.take k) else none
/-- what a call hands back: the callee's own lists are data now -/
def fin (live : Bool) (k : Nat) (S T : Sto) : W → Res W
  | .p x => .ok (.p x) T
  | .scr l => .ok (.scr l) T
  | .ref n => if n < k then .ok (.ref n) T else match S[n]? with
    | some (.lst l) => if live = true then .ok (.ref k) (T ++ [.lst l]) else .ok (.p (.lst l)) T
    | some (.ins c fs) => if live = true ∧ closedO k (.ins c fs) = true then .ok (.ref k) (T ++ [.ins c fs]) else .bad
    | none => .bad
def runF (C : Cl) (f : MF) (as : List W) (S : Sto) : Res W :=
  if as.length = f.par then match exss C f.body (startL f as) S with
    | some (o, S') => match trimS S.length S' with
      | none => .bad
      | some T => match o with
        | .ret w => fin f.live S.length S' T w
        | .nx _ => .ok (.p .non) T
        | .exc e _ => .ex e T
        | _ => .bad
    | none => .bad
  else .bad
/-- the defs, by name; the methods, by class and name -/
structure Tb where
  fn : Str → Option MF
  met : Str → Str → Option MF
  sub : Str → Str → Option Bool
/-- the calls of n frames -/
def calls (T : Tb) : Nat → Cl
  | 0 => ⟨fun _ _ _ => .bad, fun _ _ _ _ => .bad, fun _ _ _ => .bad, T.sub, fun c m => (T.met c m).isSome⟩
  | n + 1 => ⟨fun f as S => match T.fn f with
    | some mf => runF (calls T n) mf as S
    | none => .bad, fun c m as S => match T.met c m with
    | some mf => runF (calls T n) mf as S
    | none => .bad, fun c as S => (calls T n).met c "__init__" as S, T.sub, fun c m => (T.met c m).isSome⟩
end MP

set_option Elab.async false
set_option linter.all false
set_option maxRecDepth 100000
set_option autoImplicit false
/-! MP2: data against the heap; the operators. -/
namespace MP
open PySem PySem.Spec PyProof.Rows L2

/-! ### data against the heap -/
mutual
/-- the value v bears the data: its lists are none of ρ (those are live) -/
inductive Rl (K : PySem.W.Frag) (ρ : List Addr) (H : Hp) : P → V → Prop
  | non : Rl K ρ H .non .non
  | bl (b : Bool) : Rl K ρ H (.bl b) (.bl b)
  | int (i : Int) : Rl K ρ H (.int i) (.int i)
  | str (x : Str) : PyData.strOk x = true → Rl K ρ H (.str x) (.str x)
  | tup {a : Addr} {vs : List V} {l : List P} : SqT K H a vs → Rls K ρ H l vs → Rl K ρ H (.tup l) (.ref a)
  | lst {a : Addr} {vs : List V} {l : List P} : a ∉ ρ → H a = some (.lst vs) → Rls K ρ H l vs → Rl K ρ H (.lst l) (.ref a)
inductive Rls (K : PySem.W.Frag) (ρ : List Addr) (H : Hp) : List P → List V → Prop
  | nil : Rls K ρ H [] []
  | cons {p : P} {v : V} {l : List P} {vs : List V} : Rl K ρ H p v → Rls K ρ H l vs → Rls K ρ H (p :: l) (v :: vs)
end
/-- the heap goes on: what stands stands, but for the lists of ρ -/
structure Ext (ρ : List Addr) (H H' : Hp) : Prop where
  keep : ∀ a o, a ∉ ρ → H a = some o → H' a = some o
  tups : ∀ a xs, H a = some (.tup xs) → H' a = some (.tup xs)
  frzs : ∀ a o u, H a = some (.frz o u) → H' a = some (.frz o u)
  there : ∀ a, H a ≠ none → H' a ≠ none
structure Grow (ρ : List Addr) (H : Hp) (ρ' : List Addr) (H' : Hp) : Prop where
  ext : Ext ρ H H'
  new : ∀ a ∈ ρ', a ∈ ρ ∨ H a = none
/-- everything stands -/
def Kp (H H' : Hp) : Prop := ∀ a o, H a = some o → H' a = some o
theorem Kp.refl (H : Hp) : Kp H H := fun _ _ h => h
theorem Kp.trans {H H1 H2 : Hp} (a : Kp H H1) (b : Kp H1 H2) : Kp H H2 := fun x o h => b x o (a x o h)
theorem Kp.laid {H : Hp} {p : Addr} (o : HO) (hp : H p = none) : Kp H (upd H p o) := fun a u h => by
  rw [upd_ne (ne_of_none h hp)]; exact h
theorem Ext.refl (ρ : List Addr) (H : Hp) : Ext ρ H H := ⟨fun _ _ _ e => e, fun _ _ e => e, fun _ _ _ e => e, fun _ e => e⟩
theorem Kp.ext {H H' : Hp} (k : Kp H H') (ρ : List Addr) : Ext ρ H H' := ⟨fun a o _ e => k a o e, fun a xs e => k a _ e, fun a o u e => k a _ e, fun a e => by
  cases z : H a with
  | none => exact absurd z e
  | some o => rw [k a o z]; simp⟩
theorem Kp.grow {H H' : Hp} (k : Kp H H') (ρ : List Addr) : Grow ρ H ρ H' := ⟨k.ext ρ, fun _ h => .inl h⟩
theorem Grow.refl (ρ : List Addr) (H : Hp) : Grow ρ H ρ H := ⟨.refl ρ H, fun _ h => .inl h⟩
theorem Grow.trans {ρ ρ1 ρ2 : List Addr} {H H1 H2 : Hp} (g : Grow ρ H ρ1 H1) (g' : Grow ρ1 H1 ρ2 H2) : Grow ρ H ρ2 H2 := by
  obtain ⟨e, hn⟩ := g
  obtain ⟨e', hn'⟩ := g'
  refine ⟨⟨fun a o ha h => ?_, fun a xs h => e'.tups a xs (e.tups a xs h), fun a o u h => e'.frzs a o u (e.frzs a o u h), fun a h => e'.there a (e.there a h)⟩, fun a ha => ?_⟩
  · refine e'.keep a o (fun hm => ?_) (e.keep a o ha h)
    rcases hn a hm with q | q
    · exact ha q
    · rw [h] at q; cases q
  · rcases hn' a ha with q | q
    · exact hn a q
    · cases z : H a with
      | none => exact .inr rfl
      | some o => exact absurd q (e.there a (by rw [z]; simp))
theorem Grow.laid {ρ : List Addr} {H : Hp} {p : Addr} (o : HO) (hp : H p = none) : Grow ρ H ρ (upd H p o) := (Kp.laid o hp).grow ρ
section
variable {K : PySem.W.Frag} {ρ ρ' : List Addr} {H H' : Hp}
theorem SqT.go {a : Addr} {vs : List V} (e : Ext ρ H H') (h : SqT K H a vs) : SqT K H' a vs := by
  rcases h with (h | ⟨o, h⟩) | h
  · exact .inl (.inl (e.tups _ _ h))
  · exact .inl (.inr ⟨o, e.frzs _ _ _ h⟩)
  · exact .inr h
mutual
theorem Rl.go (g : Grow ρ H ρ' H') : ∀ (p : P) (v : V), Rl K ρ H p v → Rl K ρ' H' p v
  | _, _, .non => .non
  | _, _, .bl b => .bl b
  | _, _, .int i => .int i
  | _, _, .str x h => .str x h
  | _, _, .tup h r => .tup (SqT.go g.ext h) (Rls.go g _ _ r)
  | _, _, .lst n h r => .lst (fun hm => (g.new _ hm).elim n fun q => by rw [q] at h; cases h) (g.ext.keep _ _ n h) (Rls.go g _ _ r)
theorem Rls.go (g : Grow ρ H ρ' H') : ∀ (p : List P) (v : List V), Rls K ρ H p v → Rls K ρ' H' p v
  | _, _, .nil => .nil
  | _, _, .cons h r => .cons (Rl.go g _ _ h) (Rls.go g _ _ r)
end
mutual
/-- fewer lists are live -/
theorem Rl.less (hs : ∀ a ∈ ρ', a ∈ ρ) : ∀ (p : P) (v : V), Rl K ρ H p v → Rl K ρ' H p v
  | _, _, .non => .non
  | _, _, .bl b => .bl b
  | _, _, .int i => .int i
  | _, _, .str x h => .str x h
  | _, _, .tup h r => .tup h (Rls.less hs _ _ r)
  | _, _, .lst n h r => .lst (fun hm => n (hs _ hm)) h (Rls.less hs _ _ r)
theorem Rls.less (hs : ∀ a ∈ ρ', a ∈ ρ) : ∀ (p : List P) (v : List V), Rls K ρ H p v → Rls K ρ' H p v
  | _, _, .nil => .nil
  | _, _, .cons h r => .cons (Rl.less hs _ _ h) (Rls.less hs _ _ r)
end
theorem Rls.length : ∀ {l : List P} {vs : List V}, Rls K ρ H l vs → l.length = vs.length
  | _, _, .nil => rfl
  | _, _, .cons _ r => congrArg (· + 1) (Rls.length r)
theorem Rls.append : ∀ {l m : List P} {vs ws : List V}, Rls K ρ H l vs → Rls K ρ H m ws → Rls K ρ H (l ++ m) (vs ++ ws)
  | _, _, _, _, .nil, s => s
  | _, _, _, _, .cons h r, s => .cons h (Rls.append r s)
theorem Rls.get : ∀ {l : List P} {vs : List V} {i : Nat} {p : P}, Rls K ρ H l vs → l[i]? = some p → ∃ v, vs[i]? = some v ∧ Rl K ρ H p v
  | _, _, _, _, .nil, e => by simp at e
  | _, _, 0, _, .cons h _, e => by simp at e; subst e; exact ⟨_, rfl, h⟩
  | _, _, i + 1, p, .cons _ r, e => by
    obtain ⟨v, h1, h2⟩ := Rls.get (i := i) (p := p) r (by simpa using e)
    exact ⟨v, by simpa using h1, h2⟩
theorem Rls.drop : ∀ {l : List P} {vs : List V} (n : Nat), Rls K ρ H l vs → Rls K ρ H (l.drop n) (vs.drop n)
  | _, _, 0, r => r
  | _, _, _ + 1, .nil => .nil
  | _, _, n + 1, .cons _ r => Rls.drop n r
theorem Rls.take : ∀ {l : List P} {vs : List V} (n : Nat), Rls K ρ H l vs → Rls K ρ H (l.take n) (vs.take n)
  | _, _, 0, _ => .nil
  | _, _, _ + 1, .nil => .nil
  | _, _, n + 1, .cons h r => .cons h (Rls.take n r)
theorem Rls.set {p : P} {v : V} (h : Rl K ρ H p v) : ∀ {l : List P} {vs : List V} (i : Nat), Rls K ρ H l vs → Rls K ρ H (l.set i p) (vs.set i v)
  | _, _, _, .nil => .nil
  | _, _, 0, .cons _ r => .cons h r
  | _, _, i + 1, .cons q r => .cons q (Rls.set h i r)
theorem Rls.cut {l : List P} {vs : List V} (lo hi : Option Int) (r : Rls K ρ H l vs) : Rls K ρ H (cutP l lo hi) (cutV vs lo hi) := by
  unfold cutP cutV
  rw [r.length]
  exact (r.drop _).take _
theorem Rls.ints : ∀ {l : List P} {vs : List V} {ns : List Int}, Rls K ρ H l vs → P.ints? l = some ns → vs = ns.map V.int
  | _, _, _, .nil, e => by cases e; rfl
  | _, _, ns, .cons (p := p) (l := l) h r, e => by
    cases p with
    | int i =>
      cases h
      have e' : (P.ints? l).map (i :: ·) = some ns := e
      cases q : P.ints? l with
      | none => rw [q] at e'; cases e'
      | some ms =>
        rw [q] at e'; cases e'
        rw [Rls.ints r q]; rfl
    | _ => cases e
theorem Rls.bls : ∀ {l : List P} {vs : List V} {ns : List Bool}, Rls K ρ H l vs → P.bls? l = some ns → vs = ns.map V.bl
  | _, _, _, .nil, e => by cases e; rfl
  | _, _, ns, .cons (p := p) (l := l) h r, e => by
    cases p with
    | bl i =>
      cases h
      have e' : (P.bls? l).map (i :: ·) = some ns := e
      cases q : P.bls? l with
      | none => rw [q] at e'; cases e'
      | some ms =>
        rw [q] at e'; cases e'
        rw [Rls.bls r q]; rfl
    | _ => cases e
end

/-! ### as PyData -/
mutual
def toD : P → PyData
  | .non => .none
  | .bl b => .bool b
  | .int i => .int i
  | .str x => .str x
  | .tup l => .tuple (toDs l)
  | .lst l => .list (toDs l)
def toDs : List P → List PyData
  | [] => []
  | p :: l => toD p :: toDs l
end
mutual
theorem toD_eqv : ∀ p q : P, PyData.eqv (toD p) (toD q) = peq p q
  | .tup l, .tup m => toDs_eqv l m
  | .lst l, .lst m => toDs_eqv l m
  | .non, .non => rfl | .non, .bl _ => rfl | .non, .int _ => rfl | .non, .str _ => rfl | .non, .tup _ => rfl | .non, .lst _ => rfl
  | .bl _, .non => rfl | .bl _, .bl _ => rfl | .bl _, .int _ => rfl | .bl _, .str _ => rfl | .bl _, .tup _ => rfl | .bl _, .lst _ => rfl
  | .int _, .non => rfl | .int _, .bl _ => rfl | .int _, .int _ => rfl | .int _, .str _ => rfl | .int _, .tup _ => rfl | .int _, .lst _ => rfl
  | .str _, .non => rfl | .str _, .bl _ => rfl | .str _, .int _ => rfl | .str _, .str _ => rfl | .str _, .tup _ => rfl | .str _, .lst _ => rfl
  | .tup _, .non => rfl | .tup _, .bl _ => rfl | .tup _, .int _ => rfl | .tup _, .str _ => rfl | .tup _, .lst _ => rfl
  | .lst _, .non => rfl | .lst _, .bl _ => rfl | .lst _, .int _ => rfl | .lst _, .str _ => rfl | .lst _, .tup _ => rfl
theorem toDs_eqv : ∀ p q : List P, PyData.eqvAll (toDs p) (toDs q) = peqs p q
  | [], [] => rfl
  | [], _ :: _ => rfl
  | _ :: _, [] => rfl
  | p :: l, q :: m => by
    show (PyData.eqv (toD p) (toD q) && PyData.eqvAll (toDs l) (toDs m)) = (peq p q && peqs l m)
    rw [toD_eqv p q, toDs_eqv l m]
end
mutual
theorem toD_depth : ∀ p : P, (toD p).depth = p.depth
  | .tup l => congrArg (· + 1) (toDs_depth l)
  | .lst l => congrArg (· + 1) (toDs_depth l)
  | .non => rfl | .bl _ => rfl | .int _ => rfl | .str _ => rfl
theorem toDs_depth : ∀ p : List P, PyData.depthAll (toDs p) = P.depths p
  | [] => rfl
  | p :: l => by
    show max (toD p).depth (PyData.depthAll (toDs l)) = max p.depth (P.depths l)
    rw [toD_depth p, toDs_depth l]
end
section
variable {K : PySem.W.Frag} {ρ ρ' : List Addr} {H H' : Hp}
mutual
theorem Rl.lay : ∀ (p : P) (v : V), Rl K ρ H p v → (toD p).canLay0 = true
  | _, _, .tup _ r => Rls.lay _ _ r
  | _, _, .lst _ _ r => Rls.lay _ _ r
  | _, _, .non => rfl | _, _, .bl _ => rfl | _, _, .int _ => rfl | _, _, .str _ h => h
theorem Rls.lay : ∀ (p : List P) (v : List V), Rls K ρ H p v → PyData.canLayAll0 (toDs p) = true
  | _, _, .nil => rfl
  | _, _, .cons (p := p) (l := l) h r => by
    show ((toD p).canLay0 && PyData.canLayAll0 (toDs l)) = true
    rw [Rl.lay _ _ h, Rls.lay _ _ r]; rfl
end
mutual
theorem Rl.dp : ∀ (p : P) (v : V), Rl K ρ H p v → Dp K H v (toD p)
  | _, _, .non => .non
  | _, _, .bl b => .bl b
  | _, _, .int i => .int i
  | _, _, .str x _ => .str x
  | _, _, .tup h r => .tup h (Rls.dp _ _ r)
  | _, _, .lst n h r => .lst (SqL.of h) (Rls.dp _ _ r)
theorem Rls.dp : ∀ (p : List P) (v : List V), Rls K ρ H p v → DpAll K H v (toDs p)
  | _, _, .nil => .nil
  | _, _, .cons h r => .cons (Rl.dp _ _ h) (Rls.dp _ _ r)
end
theorem has_any (x : P) : ∀ l : List P, ((toDs l).any fun z => PyData.eqv z (toD x)) = has x l
  | [] => rfl
  | y :: r => by
    show (PyData.eqv (toD y) (toD x) || (toDs r).any fun z => PyData.eqv z (toD x)) = (peq y x || has x r)
    rw [toD_eqv, has_any x r]
/-- read as it stands: a live list too -/
inductive Rr (K : PySem.W.Frag) (ρ : List Addr) (H : Hp) : P → V → Prop
  | of {p : P} {v : V} : Rl K ρ H p v → Rr K ρ H p v
  | live {a : Addr} {vs : List V} {l : List P} : H a = some (.lst vs) → Rls K ρ H l vs → Rr K ρ H (.lst l) (.ref a)
theorem Rr.dp {p : P} {v : V} (h : Rr K ρ H p v) : Dp K H v (toD p) := by
  cases h with
  | of h => exact Rl.dp _ _ h
  | live h r => exact .lst (SqL.of h) (Rls.dp _ _ r)
theorem Rr.tup {l : List P} {v : V} (h : Rr K ρ H (.tup l) v) : ∃ a vs, v = .ref a ∧ SqT K H a vs ∧ Rls K ρ H l vs := by
  cases h with
  | of h => cases h with
    | tup h r => exact ⟨_, _, rfl, h, r⟩
theorem Rr.lst {l : List P} {v : V} (h : Rr K ρ H (.lst l) v) : ∃ a vs, v = .ref a ∧ H a = some (.lst vs) ∧ Rls K ρ H l vs := by
  cases h with
  | of h => cases h with
    | lst _ h r => exact ⟨_, _, rfl, h, r⟩
  | live h r => exact ⟨_, _, rfl, h, r⟩
theorem Rr.int {i : Int} {v : V} (h : Rr K ρ H (.int i) v) : v = .int i := by
  cases h with
  | of h => cases h; rfl
theorem Rr.bl {i : Bool} {v : V} (h : Rr K ρ H (.bl i) v) : v = .bl i := by
  cases h with
  | of h => cases h; rfl
theorem Rr.str {i : Str} {v : V} (h : Rr K ρ H (.str i) v) : v = .str i := by
  cases h with
  | of h => cases h; rfl
theorem Rr.strOk {i : Str} {v : V} (h : Rr K ρ H (.str i) v) : PyData.strOk i = true := by
  cases h with
  | of h => cases h with
    | str _ h => exact h
theorem Rr.lay {p : P} {v : V} (h : Rr K ρ H p v) : (toD p).canLay0 = true := by
  cases h with
  | of h => exact Rl.lay _ _ h
  | live h r => exact Rls.lay _ _ r
theorem Rr.shaped {p : P} {v : V} (r : Rr K ρ H p v) (h : p.okd = true) : SeqAt.shaped (toD p) = true := by
  have h1 : p.depth ≤ 60 := of_decide_eq_true h
  show ((toD p).canLay0 && decide ((toD p).depth ≤ 64)) = true
  rw [r.lay, toD_depth, Bool.true_and]
  exact decide_eq_true (by omega)
theorem Rr.non {v : V} (h : Rr K ρ H .non v) : v = .non := by
  cases h with
  | of h => cases h; rfl
/-- the new value r -/
def Gives (K : PySem.W.Frag) (ρ : List Addr) (H : Hp) (r : P) (Q : VK) : Prop := ∀ H' u, Kp H H' → Rl K ρ H' r u → Q u H'
theorem Gives.int {i : Int} {Q : VK} (h : Gives K ρ H (.int i) Q) : Q (.int i) H := h H _ (.refl _) (.int i)
theorem Gives.bl {i : Bool} {Q : VK} (h : Gives K ρ H (.bl i) Q) : Q (.bl i) H := h H _ (.refl _) (.bl i)
theorem Gives.str {i : Str} {Q : VK} (h : Gives K ρ H (.str i) Q) (ok : PyData.strOk i = true) : Q (.str i) H := h H _ (.refl _) (.str i ok)
theorem strOk_app {x y : Str} (h : PyData.strOk x = true) (h' : PyData.strOk y = true) : PyData.strOk (x ++ y) = true := by
  show (x.cps ++ y.cps).all _ = true
  rw [Array.all_append]
  exact Bool.and_eq_true_iff.mpr ⟨h, h'⟩
theorem Gives.at_ {r : P} {v : V} {Q : VK} (h : Gives K ρ H r Q) (e : Rl K ρ H r v) : Q v H := h H _ (.refl _) e
theorem Gives.tup {l : List P} {vs : List V} {Q : VK} (h : Gives K ρ H (.tup l) Q) (r : Rls K ρ H l vs) {p : Addr} (hp : H p = none) : Q (.ref p) (upd H p (.tup vs)) :=
  h _ _ (.laid _ hp) (.tup (SqT.of upd_same) (Rls.go (.laid _ hp) _ _ r))
theorem Gives.lst {l : List P} {vs : List V} {Q : VK} (h : Gives K ρ H (.lst l) Q) (r : Rls K ρ H l vs) (hl : ∀ a ∈ ρ, H a ≠ none) {p : Addr} (hp : H p = none) : Q (.ref p) (upd H p (.lst vs)) :=
  h _ _ (.laid _ hp) (.lst (fun hm => hl _ hm hp) upd_same (Rls.go (.laid _ hp) _ _ r))
end

/-! ### operators -/
def BOp.py : BOp → Operator
  | .add => .Add | .sub => .Sub | .mul => .Mult | .fdiv => .FloorDiv | .mod => .Mod
def COp.py : COp → CmpOp
  | .eq => .Eq | .ne => .NotEq | .lt => .Lt | .le => .LtE | .gt => .Gt | .ge => .GtE | .is_ => .Is | .isnot => .IsNot | .in_ => .In | .notin => .NotIn
def rB (K : PySem.W.Frag) (op : BOp) : R2 := fun x y H Q => ∃ ρ p q r, (∀ a ∈ ρ, H a ≠ none) ∧ Rr K ρ H p x ∧ Rr K ρ H q y ∧ bop op p q = some r ∧ Gives K ρ H r Q
theorem fold_all {q : Nat → Bool} : ∀ (l : List (Array Nat)) (acc : Array Nat), acc.all q = true → (∀ a ∈ l, a.all q = true) → (l.foldl (· ++ ·) acc).all q = true
  | [], acc, h, _ => h
  | a :: l, acc, h, k => fold_all l (acc ++ a) (by rw [Array.all_append, h, k a (by simp)]; rfl) fun b m => k b (List.mem_cons_of_mem _ m)
theorem strOk_mul {x : Str} {n : Int} (h : PyData.strOk x = true) : PyData.strOk (Txt.mul x n) = true := by
  unfold Txt.mul
  split
  · decide +kernel
  split
  · exact h
  · exact fold_all _ _ (by simp) fun a m => by rw [List.eq_of_mem_replicate m]; exact h
section
variable {X : Cx}
theorem op_mul_str : OpR X (binaryOp .Mult) (fun x y H Q => ∃ z n, x = .str z ∧ y = .int n ∧ z.length ≤ 16 ∧ 0 ≤ n ∧ n ≤ 1048576 ∧ Q (.str (Txt.mul z n)) H) := by
  intro pins s σ H x y v u Q I rx ry ⟨z, n, ex, ey, h1, h2, h3, q⟩
  subst ex ey
  obtain ⟨t, rfl⟩ := rx
  obtain ⟨t', rfl⟩ := ry
  exact PySem.SB.mul (mulOk_of 16 1048576 h1 (by omega) (by omega) (by decide) (by decide)) fun t k => ⟨.str (Txt.mul z n), H, I.tok _, ⟨t, rfl⟩, q⟩
theorem op_b (op : BOp) : OpR X (binaryOp op.py) (rB X.K op) := by
  intro pins s σ H x y v u Q I rx ry h
  obtain ⟨ρ, p, q, r, hl, hp, hq, hb, g⟩ := h
  cases op with
  | add =>
    cases p with
    | int i =>
      cases q with
      | int j =>
        cases hb
        exact op_add pins s σ H x y v u Q I rx ry ⟨i, j, hp.int, hq.int, g.int⟩
      | _ => cases hb
    | str i =>
      cases q with
      | str j =>
        have hb' : (if i.length + j.length ≤ sizeLine then some (P.str (i ++ j)) else none) = some r := hb
        split at hb'
        · rename_i hz
          cases hb'
          exact op_add_str pins s σ H x y v u Q I rx ry ⟨i, j, hp.str, hq.str, hz, g.str (strOk_app hp.strOk hq.strOk)⟩
        · cases hb'
      | _ => cases hb
    | tup l =>
      cases q with
      | tup m =>
        have hb' : (if l.length + m.length ≤ sizeLine then some (P.tup (l ++ m)) else none) = some r := hb
        split at hb'
        · rename_i hz
          cases hb'
          obtain ⟨a, vs, e1, h1, r1⟩ := hp.tup
          obtain ⟨b, ws, e2, h2, r2⟩ := hq.tup
          refine op_catA pins s σ H x y v u Q I rx ry ⟨a, b, vs, ws, e1, e2, h1, h2, by rw [← r1.length, ← r2.length]; exact hz, fun z => ?_, fun _ z => ?_, fun _ _ p hp => ?_⟩
          · subst z
            cases r1
            exact g.at_ (.tup h2 r2)
          · subst z
            cases r2
            refine g.at_ (.tup h1 ?_)
            rw [List.append_nil]
            exact r1
          · exact g.tup (r1.append r2) hp
        · cases hb'
      | _ => cases hb
    | lst l =>
      cases q with
      | lst m =>
        have hb' : (if l.length + m.length ≤ sizeLine then some (P.lst (l ++ m)) else none) = some r := hb
        split at hb'
        · rename_i hz
          cases hb'
          obtain ⟨a, vs, e1, h1, r1⟩ := hp.lst
          obtain ⟨b, ws, e2, h2, r2⟩ := hq.lst
          exact op_cat pins s σ H x y v u Q I rx ry ⟨a, b, vs, ws, e1, e2, h1, h2, by rw [← r1.length, ← r2.length]; exact hz, fun p hp => g.lst (r1.append r2) hl hp⟩
        · cases hb'
      | _ => cases hb
    | _ => cases hb
  | sub =>
    cases p with
    | int i =>
      cases q with
      | int j =>
        cases hb
        exact op_sub pins s σ H x y v u Q I rx ry ⟨i, j, hp.int, hq.int, g.int⟩
      | _ => cases hb
    | _ => cases hb
  | mul =>
    cases p with
    | int i =>
      cases q with
      | int j =>
        have hb' : (if (-(2 ^ 64) < i ∧ i < 2 ^ 64) ∨ (-(2 ^ 64) < j ∧ j < 2 ^ 64) then some (P.int (i * j)) else none) = some r := hb
        split at hb'
        · rename_i hz
          cases hb'
          exact op_mul pins s σ H x y v u Q I rx ry ⟨i, j, hp.int, hq.int, hz, g.int⟩
        · cases hb'
      | _ => cases hb
    | str z =>
      cases q with
      | int n =>
        have hb' : (if z.length ≤ 16 ∧ 0 ≤ n ∧ n ≤ 1048576 then some (P.str (Txt.mul z n)) else none) = some r := hb
        split at hb'
        · rename_i hz
          cases hb'
          exact op_mul_str pins s σ H x y v u Q I rx ry ⟨z, n, hp.str, hq.int, hz.1, hz.2.1, hz.2.2, g.str (strOk_mul hp.strOk)⟩
        · cases hb'
      | _ => cases hb
    | _ => cases hb
  | fdiv =>
    cases p with
    | int i =>
      cases q with
      | int j =>
        have hb' : (if 0 < j ∧ j < 1073741824 then some (P.int (i / j)) else none) = some r := hb
        split at hb'
        · rename_i hz
          cases hb'
          exact op_fdiv pins s σ H x y v u Q I rx ry ⟨i, j, hp.int, hq.int, hz, g.int⟩
        · cases hb'
      | _ => cases hb
    | _ => cases hb
  | mod =>
    cases p with
    | int i =>
      cases q with
      | int j =>
        have hb' : (if 0 < j then some (P.int (i % j)) else none) = some r := hb
        split at hb'
        · rename_i hz
          cases hb'
          exact op_mod pins s σ H x y v u Q I rx ry ⟨i, j, hp.int, hq.int, hz, g.int⟩
        · cases hb'
      | _ => cases hb
    | _ => cases hb
end
end MP

set_option Elab.async false
set_option linter.all false
set_option maxRecDepth 100000
set_option autoImplicit false
/-! MP3: comparisons, truth, built-ins, subscripts. -/
namespace MP
open PySem PySem.Spec PyProof.Rows L2

def rC (K : PySem.W.Frag) (op : COp) : R2 := fun x y H Q => ∃ ρ p q k, Rr K ρ H p x ∧ Rr K ρ H q y ∧ cop op p q = some k ∧ Q (.bl k) H
section
variable {K : PySem.W.Frag} {ρ : List Addr} {H : Hp}
theorem Rl.non_iff {p : P} {v : V} (h : Rl K ρ H p v) : decide (v = .non) = isNon p := by
  cases h <;> rfl
theorem Rr.non_iff {p : P} {v : V} (h : Rr K ρ H p v) : decide (v = .non) = isNon p := by
  cases h with
  | of h => exact h.non_iff
  | live _ _ => rfl
theorem ite_some {α : Type} {c : Prop} [Decidable c] {a b : α} (h : (if c then some a else none) = some b) : c ∧ a = b := by
  split at h
  · rename_i hc
    exact ⟨hc, Option.some.inj h⟩
  · cases h
end
section
variable {X : Cx}
theorem in_tup (neg : Bool) (hu : X.A.units + 65 < cLine) {pins : List (Addr × Obj)} {s : Shared} {σ : L2.St} {H : Hp} {x y : V} {v u : Value} {Q : VK} (I : Inv X pins σ H s) (rx : RelV x v) (ry : RelV y u) {ρ : List Addr} {p : P} {l : List P}
    (hp : Rr X.K ρ H p x) (hq : Rr X.K ρ H (.tup l) y) (h1 : p.okd = true) (h2 : (P.tup l).okd = true) (q : Q (.bl (if neg then !has p l else has p l)) H) :
    wpAny (model X.prog X.w) X.A (compareOp (if neg then .NotIn else .In) v u) (EP X pins σ Q) X.xe s := by
  have sd := hp.shaped h1
  have se := hq.shaped h2
  obtain ⟨as, r1⟩ := Dp.reads I _ x v hp.dp rx
  obtain ⟨bs, r2⟩ := Dp.reads I _ y u hq.dp ry
  have hz := has_any p l
  cases neg with
  | false => exact SeqAt.in_tuple_reads r2 r1 (SeqAt.canLay_of_shaped se) (SeqAt.canLay_of_shaped sd) (room_in_shaped sd hu) ⟨.bl _, H, I, rfl, by rw [hz]; exact q⟩
  | true => exact SeqAt.notIn_tuple_reads r2 r1 (SeqAt.canLay_of_shaped se) (SeqAt.canLay_of_shaped sd) (room_in_shaped sd hu) ⟨.bl _, H, I, rfl, by rw [hz]; exact q⟩
theorem op_c (hu : X.A.units + 65 < cLine) (op : COp) : OpR X (compareOp op.py) (rC X.K op) := by
  intro pins s σ H x y v u Q I rx ry h
  obtain ⟨ρ, p, q, k, hp, hq, hb, g⟩ := h
  have hu0 : X.A.units + 64 < cLine := by omega
  have hu1 : X.A.units < cLine := by omega
  cases op with
  | eq =>
    obtain ⟨hc, e⟩ := ite_some (show (if (p.okd && q.okd) = true then some (peq p q) else none) = some k from hb)
    obtain ⟨h1, h2⟩ := Bool.and_eq_true_iff.mp hc
    subst e
    exact op_eqD hu0 pins s σ H x y v u Q I rx ry ⟨_, _, hp.dp, hq.dp, hp.shaped h1, hq.shaped h2, by rw [toD_eqv]; exact g⟩
  | ne =>
    obtain ⟨hc, e⟩ := ite_some (show (if (p.okd && q.okd) = true then some (!peq p q) else none) = some k from hb)
    obtain ⟨h1, h2⟩ := Bool.and_eq_true_iff.mp hc
    subst e
    exact op_neD hu0 pins s σ H x y v u Q I rx ry ⟨_, _, hp.dp, hq.dp, hp.shaped h1, hq.shaped h2, by rw [toD_eqv]; exact g⟩
  | lt =>
    cases p with
    | int i =>
      cases q with
      | int j =>
        cases hb
        exact op_lt pins s σ H x y v u Q I rx ry ⟨i, j, hp.int, hq.int, g⟩
      | _ => cases hb
    | tup l =>
      cases q with
      | tup m =>
        have hb' : ((P.ints? l).bind fun ns => (P.ints? m).map fun ms => HT.lexLt ns ms) = some k := hb
        obtain ⟨ns, e1, hb'⟩ := Option.bind_eq_some_iff.mp hb'
        obtain ⟨ms, e2, e3⟩ := Option.map_eq_some_iff.mp hb'
        obtain ⟨a, vs, f1, h1, r1⟩ := hp.tup
        obtain ⟨b, ws, f2, h2, r2⟩ := hq.tup
        have g1 := r1.ints e1
        have g2 := r2.ints e2
        subst g1 g2 e3
        exact op_ltT hu1 pins s σ H x y v u Q I rx ry ⟨a, b, ns, ms, f1, f2, h1, h2, g⟩
      | _ => cases hb
    | _ => cases hb
  | le =>
    cases p with
    | int i =>
      cases q with
      | int j =>
        cases hb
        exact op_le pins s σ H x y v u Q I rx ry ⟨i, j, hp.int, hq.int, g⟩
      | _ => cases hb
    | _ => cases hb
  | gt =>
    cases p with
    | int i =>
      cases q with
      | int j =>
        cases hb
        exact op_gt pins s σ H x y v u Q I rx ry ⟨i, j, hp.int, hq.int, g⟩
      | _ => cases hb
    | _ => cases hb
  | ge =>
    cases p with
    | int i =>
      cases q with
      | int j =>
        cases hb
        exact op_ge pins s σ H x y v u Q I rx ry ⟨i, j, hp.int, hq.int, g⟩
      | _ => cases hb
    | _ => cases hb
  | is_ =>
    cases q with
    | non =>
      have e : some (isNon p) = some k := hb
      cases e
      exact op_isN pins s σ H x y v u Q I rx ry ⟨hq.non, by rw [hp.non_iff]; exact g⟩
    | _ => cases p <;> cases hb
  | isnot =>
    cases q with
    | non =>
      have e : some (!isNon p) = some k := hb
      cases e
      exact op_notN pins s σ H x y v u Q I rx ry ⟨hq.non, by rw [hp.non_iff]; exact g⟩
    | _ => cases p <;> cases hb
  | in_ =>
    cases q with
    | str y =>
      cases p with
      | str x =>
        have hb' : (match x.cps.toList with
          | [c] => some (decide (c ∈ y.cps.toList))
          | _ => none) = some k := hb
        split at hb'
        · rename_i c hx
          cases hb'
          have ex : x = ⟨#[c]⟩ := by
            obtain ⟨l⟩ := x
            obtain ⟨l⟩ := l
            simp only at hx
            rw [hx]
          exact op_in_sign pins s σ H _ _ v u Q I rx ry ⟨c, y, by rw [hp.str, ex], hq.str, g⟩
        · cases hb'
      | _ => cases hb
    | tup l =>
      obtain ⟨hc, e⟩ := ite_some (show (if (p.okd && (P.tup l).okd) = true then some (has p l) else none) = some k from by cases p <;> exact hb)
      obtain ⟨h1, h2⟩ := Bool.and_eq_true_iff.mp hc
      subst e
      exact in_tup false hu I rx ry hp hq h1 h2 g
    | lst l =>
      obtain ⟨hc, e⟩ := ite_some (show (if (p.okd && (P.lst l).okd) = true then some (has p l) else none) = some k from by cases p <;> exact hb)
      obtain ⟨h1, h2⟩ := Bool.and_eq_true_iff.mp hc
      subst e
      exact op_inD hu pins s σ H x y v u Q I rx ry ⟨_, _, hp.dp, hq.dp, hp.shaped h1, hq.shaped h2, by rw [has_any]; exact g⟩
    | _ => cases p <;> cases hb
  | notin =>
    cases q with
    | str y =>
      cases p with
      | str x =>
        have hb' : (match x.cps.toList with
          | [c] => some (!decide (c ∈ y.cps.toList))
          | _ => none) = some k := hb
        split at hb'
        · rename_i c hx
          cases hb'
          have ex : x = ⟨#[c]⟩ := by
            obtain ⟨l⟩ := x
            obtain ⟨l⟩ := l
            simp only at hx
            rw [hx]
          exact op_notIn_sign pins s σ H _ _ v u Q I rx ry ⟨c, y, by rw [hp.str, ex], hq.str, g⟩
        · cases hb'
      | _ => cases hb
    | tup l =>
      obtain ⟨hc, e⟩ := ite_some (show (if (p.okd && (P.tup l).okd) = true then some (!has p l) else none) = some k from by cases p <;> exact hb)
      obtain ⟨h1, h2⟩ := Bool.and_eq_true_iff.mp hc
      subst e
      exact in_tup true hu I rx ry hp hq h1 h2 g
    | lst l =>
      obtain ⟨hc, e⟩ := ite_some (show (if (p.okd && (P.lst l).okd) = true then some (!has p l) else none) = some k from by cases p <;> exact hb)
      obtain ⟨h1, h2⟩ := Bool.and_eq_true_iff.mp hc
      subst e
      exact op_notInD hu pins s σ H x y v u Q I rx ry ⟨_, _, hp.dp, hq.dp, hp.shaped h1, hq.shaped h2, by rw [has_any]; exact g⟩
    | _ => cases p <;> cases hb
end
/-! ### truth -/
theorem truV_of {K : PySem.W.Frag} {ρ : List Addr} {H : Hp} {p : P} {v : V} {k : Bool} (h : Rr K ρ H p v) (e : truth p = some k) : TruV K v H k := by
  cases p with
  | non => cases e; rw [h.non]; exact rfl
  | bl b => cases e; rw [h.bl]; exact rfl
  | int i => cases e; rw [h.int]; exact rfl
  | str x =>
    obtain ⟨hz, e⟩ := ite_some (show (if x.length ≤ sizeLine then some (x.length != 0) else none) = some k from e)
    rw [h.str]
    refine ⟨hz, ?_⟩
    rw [← e]
    cases q : x.length with
    | zero => rfl
    | succ n => rfl
  | tup l =>
    cases e
    obtain ⟨a, vs, rfl, h1, r⟩ := h.tup
    refine .inr (.inl ⟨vs, h1, ?_⟩)
    cases r <;> rfl
  | lst l =>
    cases e
    obtain ⟨a, vs, rfl, h1, r⟩ := h.lst
    refine .inl ⟨vs, SqL.of h1, ?_⟩
    cases r <;> rfl
/-! ### types -/
def P.ty : P → String
  | .non => "NoneType" | .bl _ => "bool" | .int _ => "int" | .str _ => "str" | .tup _ => "tuple" | .lst _ => "list"
def Ty.name : Ty → String
  | .int => "int" | .bool => "bool" | .str => "str" | .tuple => "tuple" | .list => "list"
def isN : Ty → String → Bool
  | .int, n => n == "int" || n == "bool"
  | T, n => n == T.name
theorem tyX_of {K : PySem.W.Frag} {ρ : List Addr} {H : Hp} {p : P} {v : V} (h : Rr K ρ H p v) : TyX K H v (.type p.ty) := by
  cases p with
  | non => rw [h.non]; exact .base .non
  | bl b => rw [h.bl]; exact .base (.bl b)
  | int i => rw [h.int]; exact .base (.int i)
  | str x => rw [h.str]; exact .base (.str x)
  | tup l =>
    obtain ⟨a, vs, rfl, h1, r⟩ := h.tup
    rcases h1 with (h1 | ⟨o, h1⟩) | ⟨o, its, n, h1, h2, _⟩
    · exact .base (.tup h1)
    · exact .fTuple h1
    · exact .kTuple h1 h2
  | lst l =>
    obtain ⟨a, vs, rfl, h1, r⟩ := h.lst
    exact .base (.lst h1)
theorem kit_p (K : PySem.W.Frag) (T : Ty) (p : P) : PySem.W.kitOne K (.type p.ty) (.type T.name) = some (isT T p) := by
  have h : ∀ n ∈ ["NoneType", "bool", "int", "str", "tuple", "list"], kitB n T.name = some (isN T n) := by cases T <;> decide +kernel
  have e : isT T p = isN T p.ty := by cases T <;> cases p <;> rfl
  rw [e]
  exact kit_ty (h _ (by cases p <;> simp [P.ty]))
/-! ### built-ins -/
def BF.py : BF → Value
  | .str => .type "str" | .len => .builtin "len" | .all => .builtin "all" | .any => .builtin "any" | .int => .type "int" | .tuple => .type "tuple"
inductive Rrs (K : PySem.W.Frag) (ρ : List Addr) (H : Hp) : List P → List V → Prop
  | nil : Rrs K ρ H [] []
  | cons {p : P} {v : V} {l : List P} {vs : List V} : Rr K ρ H p v → Rrs K ρ H l vs → Rrs K ρ H (p :: l) (v :: vs)
theorem Rrs.one {K : PySem.W.Frag} {ρ : List Addr} {H : Hp} {p : P} {vs : List V} (h : Rrs K ρ H [p] vs) : ∃ v, vs = [v] ∧ Rr K ρ H p v := by
  cases h with
  | cons h r => cases r; exact ⟨_, rfl, h⟩
theorem strOk_int (i : Int) : PyData.strOk (Str.ofString (toString i)) = true := by
  show (Str.ofString (toString i)).cps.all _ = true
  rw [Array.all_eq_true']
  intro c hc
  refine decide_eq_true ?_
  rcases Nat.lt_or_ge c 0x110000 with h | h
  · exact h
  · exact absurd (show c ∈ (Str.ofString (toString i)).cps.toList from by simpa using hc) (int_text_free' c ⟨by omega, .inr (by omega)⟩ i)
def rF (K : PySem.W.Frag) (f : BF) : List V → Hp → VK → Prop := fun vs H Q => ∃ ρ l r, (∀ a ∈ ρ, H a ≠ none) ∧ Rrs K ρ H l vs ∧ bfn f l = some r ∧ Gives K ρ H r Q
section
variable {X : Cx}
theorem call_f (hc : X.calm = true) (f : BF) : CallR X f.py (rF X.K f) := by
  intro pins s σ H vs us Q I rv h
  obtain ⟨ρ, l, r, hl, hv, hb, g⟩ := h
  match f, l, hv, hb with
  | .len, [.tup m], hv, hb =>
    obtain ⟨v, rfl, h⟩ := hv.one
    obtain ⟨a, ws, rfl, h1, r1⟩ := h.tup
    cases hb
    refine call_len pins s σ H _ us Q I rv ⟨_, ws.length, rfl, .inr ⟨ws, h1, rfl⟩, ?_⟩
    rw [← r1.length]
    exact g.int
  | .len, [.lst m], hv, hb =>
    obtain ⟨v, rfl, h⟩ := hv.one
    obtain ⟨a, ws, rfl, h1, r1⟩ := h.lst
    cases hb
    refine call_len pins s σ H _ us Q I rv ⟨_, ws.length, rfl, .inl ⟨ws, SqL.of h1, rfl⟩, ?_⟩
    rw [← r1.length]
    exact g.int
  | .len, [.str x], hv, hb =>
    obtain ⟨v, rfl, h⟩ := hv.one
    obtain ⟨hz, e⟩ := ite_some (show (if x.length ≤ sizeLine then some (P.int x.length) else none) = some r from hb)
    subst e
    rw [h.str] at rv
    exact call_len pins s σ H _ us Q I rv ⟨_, x.length, rfl, ⟨hz, rfl⟩, g.int⟩
  | .all, [.lst m], hv, hb =>
    obtain ⟨v, rfl, h⟩ := hv.one
    obtain ⟨a, ws, rfl, h1, r1⟩ := h.lst
    obtain ⟨bs, e1, e2⟩ := Option.map_eq_some_iff.mp hb
    have e3 := r1.bls e1
    subst e3 e2
    exact cr_all hc pins s σ H _ us Q I rv ⟨a, bs, rfl, SqL.of h1, g.bl⟩
  | .any, [.lst m], hv, hb =>
    obtain ⟨v, rfl, h⟩ := hv.one
    obtain ⟨a, ws, rfl, h1, r1⟩ := h.lst
    obtain ⟨bs, e1, e2⟩ := Option.map_eq_some_iff.mp hb
    have e3 := r1.bls e1
    subst e3 e2
    exact cr_any hc pins s σ H _ us Q I rv ⟨a, bs, rfl, SqL.of h1, g.bl⟩
  | .int, [.int i], hv, hb =>
    obtain ⟨v, rfl, h⟩ := hv.one
    cases hb
    rw [h.int] at rv
    exact call_int1 pins s σ H _ us Q I rv (.inl ⟨i, rfl, g.int⟩)
  | .int, [.bl i], hv, hb =>
    obtain ⟨v, rfl, h⟩ := hv.one
    cases hb
    rw [h.bl] at rv
    exact call_int1 pins s σ H _ us Q I rv (.inr ⟨i, rfl, g.int⟩)
  | .int, [.str a], hv, hb =>
    obtain ⟨v, rfl, h⟩ := hv.one
    obtain ⟨hz, e⟩ := ite_some (show (if a.length ≤ 640 then some ((intText? a).map P.int) else none) = some (some r) from by
      have hb' : (if a.length ≤ 640 then (intText? a).map P.int else none) = some r := hb
      split at hb'
      · rw [hb', if_pos (by assumption)]
      · cases hb')
    obtain ⟨n, e1, rfl⟩ := Option.map_eq_some_iff.mp e
    rw [h.str] at rv
    exact call_int_str pins s σ H _ us Q I rv ⟨a, n, rfl, e1, hz, g.int⟩
  | .str, [.int i], hv, hb =>
    obtain ⟨v, rfl, h⟩ := hv.one
    obtain ⟨hz, e⟩ := ite_some (show (if i.natAbs.log2 < 1920 then some (P.str (Str.ofString (toString i))) else none) = some r from hb)
    subst e
    rw [h.int] at rv
    exact call_str_int pins s σ H _ us Q I rv ⟨i, rfl, hz, g.str (strOk_int i)⟩
  | .str, [.str a], hv, hb =>
    obtain ⟨v, rfl, h⟩ := hv.one
    cases hb
    have ok := h.strOk
    rw [h.str] at rv
    exact SkE.call_str_str pins s σ H _ us Q I rv ⟨a, rfl, g.str ok⟩
  | .tuple, [.lst m], hv, hb =>
    obtain ⟨v, rfl, h⟩ := hv.one
    obtain ⟨a, ws, rfl, h1, r1⟩ := h.lst
    cases hb
    exact call_tuple_of pins s σ H _ us Q I rv ⟨a, ws, rfl, .inl ⟨SqL.of h1, fun p hp => g.tup r1 hp⟩⟩
  | .tuple, [.tup m], hv, hb =>
    obtain ⟨v, rfl, h⟩ := hv.one
    obtain ⟨a, ws, rfl, h1, r1⟩ := h.tup
    cases hb
    exact call_tuple_of pins s σ H _ us Q I rv ⟨a, ws, rfl, .inr ⟨h1, g.at_ (.tup h1 r1)⟩⟩
/-! ### a[i], a[lo:hi] -/
def rIdx (K : PySem.W.Frag) : R2 := fun x y H Q => ∃ ρ p q r, Rr K ρ H p x ∧ Rr K ρ H q y ∧ pidx p q = some r ∧ Gives K ρ H r Q
theorem Rls.atI {K : PySem.W.Frag} {ρ : List Addr} {H : Hp} {l : List P} {vs : List V} {i : Int} {p : P} (r : Rls K ρ H l vs) (h : L2.atI l i = some p) : ∃ v, L2.atI vs i = some v ∧ Rl K ρ H p v := by
  unfold L2.atI at h ⊢
  rw [← r.length]
  obtain ⟨j, e1, e2⟩ := Option.bind_eq_some_iff.mp h
  obtain ⟨v, e3, e4⟩ := r.get e2
  exact ⟨v, by rw [e1]; exact e3, e4⟩
theorem strOk_sign {x : Str} {c : Nat} {i : Int} (h : PyData.strOk x = true) (e : L2.atI x.cps.toList i = some c) : PyData.strOk ⟨#[c]⟩ = true := by
  unfold L2.atI at e
  obtain ⟨j, e1, e2⟩ := Option.bind_eq_some_iff.mp e
  have hm := List.mem_of_getElem? e2
  have h' : ∀ c ∈ x.cps.toList, decide (c < 0x110000) = true := fun c hc => by
    have := Array.all_eq_true'.mp h c (by simpa using hc)
    exact this
  show (#[c] : Array Nat).all _ = true
  simpa using h' c hm
theorem ix_p : IxR X (rIdx X.K) := by
  intro value slice pins s σ H x y v u Q I rx ry h hs
  obtain ⟨ρ, p, q, r, hp, hq, hb, g⟩ := h
  cases q with
  | int i =>
    have ey := hq.int
    cases p with
    | tup l =>
      obtain ⟨a, ws, rfl, h1, r1⟩ := hp.tup
      obtain ⟨v', e1, e2⟩ := r1.atI (show L2.atI l i = some r from hb)
      exact ix_tup value slice pins s σ H _ y v u Q I rx ry ⟨a, ws, i, v', rfl, ey, h1, e1, g.at_ e2⟩ hs
    | lst l =>
      obtain ⟨a, ws, rfl, h1, r1⟩ := hp.lst
      obtain ⟨v', e1, e2⟩ := r1.atI (show L2.atI l i = some r from hb)
      exact ix_list value slice pins s σ H _ y v u Q I rx ry ⟨a, ws, i, v', rfl, ey, SqL.of h1, e1, g.at_ e2⟩ hs
    | str z =>
      have hb' : (if z.length ≤ sizeLine then (L2.atI z.cps.toList i).map fun c => P.str ⟨#[c]⟩ else none) = some r := hb
      split at hb'
      · rename_i hz
        obtain ⟨c, e1, e2⟩ := Option.map_eq_some_iff.mp hb'
        subst e2
        exact ix_str value slice pins s σ H _ y v u Q I rx ry ⟨z, i, c, hp.str, ey, hz, e1, g.str (strOk_sign hp.strOk e1)⟩ hs
      · cases hb'
    | _ => cases hb
  | _ => cases p <;> cases hb
def rSlc (K : PySem.W.Frag) : V → Option Int → Option Int → Hp → VK → Prop := fun x lo hi H Q =>
  (∃ ρ p r, (∀ a ∈ ρ, H a ≠ none) ∧ Rr K ρ H p x ∧ pslc p lo hi = some r ∧ Gives K ρ H r Q) ∨
  (∃ ρ a vs l, (∀ a ∈ ρ, H a ≠ none) ∧ x = .ref a ∧ SqL K H a vs ∧ Rls K ρ H l vs ∧ Gives K ρ H (.lst (cutP l lo hi)) Q)
theorem strOk_cut {z : Str} {lo hi : Option Int} (h : PyData.strOk z = true) : PyData.strOk (cutS z lo hi) = true := by
  have h' : ∀ c ∈ z.cps.toList, decide (c < 0x110000) = true := fun c hc => Array.all_eq_true'.mp h c (by simpa using hc)
  show (cutS z lo hi).cps.all _ = true
  rw [Array.all_eq_true']
  intro c hc
  unfold cutS at hc
  exact h' c (List.mem_of_mem_drop (List.mem_of_mem_take (by simpa using hc)))
theorem sl_p : SlR X (rSlc X.K) := by
  intro pins s σ H x v vl vu lo hi sl Q I rx hs pl pu h
  rcases h with ⟨ρ, p, r, hl, hp, hb, g⟩ | ⟨ρ, a, vs, l, hl, rfl, h1, r1, g⟩
  · cases p with
    | tup l =>
      obtain ⟨a, ws, rfl, h1, r1⟩ := hp.tup
      cases hb
      refine sl_tupA pins s σ H _ v vl vu lo hi sl Q I rx hs pl pu ⟨a, ws, rfl, h1, fun ⟨z1, z2⟩ => ?_, fun _ p hp => g.tup (r1.cut lo hi) hp⟩
      refine g.at_ (.tup h1 ?_)
      have := r1.cut lo hi
      have e : cutV ws lo hi = ws := by
        unfold cutV
        rw [z1, z2]
        simp
      rw [e] at this
      exact this
    | lst l =>
      obtain ⟨a, ws, rfl, h1, r1⟩ := hp.lst
      cases hb
      exact sl_list pins s σ H _ v vl vu lo hi sl Q I rx hs pl pu ⟨a, ws, rfl, SqL.of h1, fun p hp => g.lst (r1.cut lo hi) hl hp⟩
    | str z =>
      obtain ⟨hz, e⟩ := ite_some (show (if z.length ≤ sizeLine then some (P.str (cutS z lo hi)) else none) = some r from hb)
      subst e
      exact sl_str pins s σ H _ v vl vu lo hi sl Q I rx hs pl pu ⟨z, hp.str, hz, g.str (strOk_cut hp.strOk)⟩
    | _ => cases hb
  · exact sl_list pins s σ H _ v vl vu lo hi sl Q I rx hs pl pu ⟨a, vs, rfl, h1, fun p hp => g.lst (r1.cut lo hi) hl hp⟩
end
end MP

set_option Elab.async false
set_option linter.all false
set_option maxRecDepth 100000
set_option autoImplicit false
/-! MP4: values, stores, names against the heap; what an expression's reading is. -/
namespace MP
open PySem PySem.Spec PyProof.Rows L2

structure Gd where
  K : PySem.W.Frag
  /-- the exceptions' classes, the objects' -/
  cls : Str → Option Addr
  ob : Str → Option Addr
  /-- lists that are being made: no data's -/
  δ : List Addr
/-- the lists that no data may hold -/
def Gd.ban (G : Gd) (ρ : List Addr) : List Addr := ρ ++ G.δ
/-- with other lists in the making -/
def Gd.dl (G : Gd) (δ : List Addr) : Gd := { G with δ := δ }
structure Gro (ρ : List Addr) (H : Hp) (ρ' : List Addr) (H' : Hp) : Prop where
  ext : Ext ρ H H'
  new : ∀ a ∈ ρ', a ∈ ρ ∨ H a = none
  at_ : ∃ n, ρ' = ρ ++ n
section
variable {G : Gd} {ρ ρ1 ρ2 ρ' : List Addr} {H H1 H2 H' : Hp}
theorem Gro.refl (ρ : List Addr) (H : Hp) : Gro ρ H ρ H := ⟨.refl _ _, fun _ h => .inl h, [], by simp⟩
theorem Gro.low (a : Gro ρ H ρ1 H1) : Grow ρ H ρ1 H1 := ⟨a.ext, a.new⟩
theorem Gro.trans (a : Gro ρ H ρ1 H1) (b : Gro ρ1 H1 ρ2 H2) : Gro ρ H ρ2 H2 := by
  have t := a.low.trans b.low
  refine ⟨t.ext, t.new, ?_⟩
  obtain ⟨n, rfl⟩ := a.at_
  obtain ⟨m, rfl⟩ := b.at_
  exact ⟨n ++ m, by simp⟩
theorem _root_.MP.Ext.wide {σ : List Addr} (e : Ext ρ H H') (h : ∀ a ∈ ρ, a ∈ σ) : Ext σ H H' := ⟨fun a o n => e.keep a o fun m => n (h a m), e.tups, e.frzs, e.there⟩
theorem Gro.g (a : Gro ρ H ρ' H') (G : Gd) : Grow (G.ban ρ) H (G.ban ρ') H' := ⟨a.ext.wide fun x m => List.mem_append_left _ m, fun x m => by
  rcases List.mem_append.mp m with q | q
  · exact (a.new x q).imp (List.mem_append_left _) id
  · exact .inl (List.mem_append_right _ q)⟩
theorem Kp.gro (k : Kp H H') (ρ : List Addr) : Gro ρ H ρ H' := ⟨k.ext _, fun _ h => .inl h, [], by simp⟩
end
/-- the script: never written -/
def ScrAt (K : PySem.W.Frag) (H : Hp) (a : Addr) (vs : List V) : Prop := (∃ o, H a = some (.frz o (.lst vs))) ∨
  ∃ (o : Obj) (its : Array Value) (n : Nat), K.lookup a = some o ∧ o.cls = .type "list" ∧ o.dict = none ∧ o.data = .seq its n ∧ its.size ≤ sizeLine ∧ Vals vs its.toList
theorem ScrAt.sq {K : PySem.W.Frag} {H : Hp} {a : Addr} {vs : List V} (h : ScrAt K H a vs) : SqL K H a vs := h.elim (fun h => .inl (.inr h)) .inr
theorem ScrAt.go {K : PySem.W.Frag} {ρ : List Addr} {H H' : Hp} {a : Addr} {vs : List V} (e : Ext ρ H H') (h : ScrAt K H a vs) : ScrAt K H' a vs :=
  h.elim (fun ⟨o, h⟩ => .inl ⟨o, e.frzs _ _ _ h⟩) .inr
/-- a value -/
def RlW (G : Gd) (ρ : List Addr) (H : Hp) : W → V → Prop
  | .p x, v => Rl G.K (G.ban ρ) H x v
  | .ref n, v => ∃ a, ρ[n]? = some a ∧ v = .ref a
  | .scr l, v => ∃ a vs, v = .ref a ∧ ScrAt G.K H a vs ∧ Rls G.K (G.ban ρ) H l vs
inductive RlWs (G : Gd) (ρ : List Addr) (H : Hp) : List W → List V → Prop
  | nil : RlWs G ρ H [] []
  | cons {w : W} {v : V} {ws : List W} {vs : List V} : RlW G ρ H w v → RlWs G ρ H ws vs → RlWs G ρ H (w :: ws) (v :: vs)
inductive RlF (G : Gd) (ρ : List Addr) (H : Hp) : List (Str × W) → List (Str × V) → Prop
  | nil : RlF G ρ H [] []
  | cons {x : Str} {w : W} {v : V} {ws : List (Str × W)} {vs : List (Str × V)} : RlW G ρ H w v → RlF G ρ H ws vs → RlF G ρ H ((x, w) :: ws) ((x, v) :: vs)
def ObR (G : Gd) (ρ : List Addr) (H : Hp) (a : Addr) : Ob → Prop
  | .lst l => ∃ vs, H a = some (.lst vs) ∧ Rls G.K (G.ban ρ) H l vs
  | .ins c fs => ∃ C dx fvs, G.ob c = some C ∧ H a = some (.ins C dx fvs) ∧ RlF G ρ H fs fvs
structure StoOk (G : Gd) (ρ : List Addr) (H : Hp) (S : Sto) : Prop where
  len : S.length = ρ.length
  nd : (G.ban ρ).Nodup
  ob : ∀ (i : Nat) (o : Ob) (a : Addr), S[i]? = some o → ρ[i]? = some a → ObR G ρ H a o
  dl : ∀ a ∈ G.δ, H a ≠ none
structure LocOk (G : Gd) (ρ : List Addr) (H : Hp) (L : Loc) (σ : L2.St) : Prop where
  len : L.length = σ.length
  at_ : ∀ (i : Nat) (w : W), L[i]? = some (some w) → ∃ v, σ[i]? = some (some v) ∧ RlW G ρ H w v
section
variable {G : Gd} {ρ ρ1 ρ2 ρ' : List Addr} {H H1 H2 H' : Hp}
theorem RlW.go (g : Gro ρ H ρ' H') : ∀ {w : W} {v : V}, RlW G ρ H w v → RlW G ρ' H' w v
  | .p x, v, h => Rl.go (g.g G) _ _ h
  | .ref n, v, ⟨a, h, e⟩ => by
    obtain ⟨m, rfl⟩ := g.at_
    refine ⟨a, ?_, e⟩
    rw [List.getElem?_append_left (by
      rcases Nat.lt_or_ge n ρ.length with q | q
      · exact q
      · rw [List.getElem?_eq_none q] at h; cases h)]
    exact h
  | .scr l, v, ⟨a, vs, e, h, r⟩ => ⟨a, vs, e, h.go g.ext, Rls.go (g.g G) _ _ r⟩
theorem RlWs.go (g : Gro ρ H ρ' H') : ∀ {w : List W} {v : List V}, RlWs G ρ H w v → RlWs G ρ' H' w v
  | _, _, .nil => .nil
  | _, _, .cons h r => .cons (h.go g) (RlWs.go g r)
theorem RlF.go (g : Gro ρ H ρ' H') : ∀ {w : List (Str × W)} {v : List (Str × V)}, RlF G ρ H w v → RlF G ρ' H' w v
  | _, _, .nil => .nil
  | _, _, .cons h r => .cons (h.go g) (RlF.go g r)
theorem LocOk.go (g : Gro ρ H ρ' H') {L : Loc} {σ : L2.St} (h : LocOk G ρ H L σ) : LocOk G ρ' H' L σ :=
  ⟨h.len, fun i w e => let ⟨v, a, b⟩ := h.at_ i w e; ⟨v, a, b.go g⟩⟩
theorem StoOk.there {S : Sto} (h : StoOk G ρ H S) : ∀ a ∈ G.ban ρ, H a ≠ none := fun a ha => by
  rcases List.mem_append.mp ha with q | q
  · obtain ⟨i, hi, e⟩ := List.getElem_of_mem q
    have hs : i < S.length := by rw [h.len]; exact hi
    have o := h.ob i S[i] a (List.getElem?_eq_getElem hs) (by rw [List.getElem?_eq_getElem hi, e])
    cases z : S[i] with
    | lst l => rw [z] at o; obtain ⟨vs, e, _⟩ := o; rw [e]; simp
    | ins c fs => rw [z] at o; obtain ⟨C, dx, fv, _, e, _⟩ := o; rw [e]; simp
  · exact h.dl a q
theorem StoOk.kp {S : Sto} (k : Kp H H') (h : StoOk G ρ H S) : StoOk G ρ H' S := by
  refine ⟨h.len, h.nd, fun i o a e1 e2 => ?_, fun a ha => (k.ext []).there _ (h.dl a ha)⟩
  have q := h.ob i o a e1 e2
  cases o with
  | lst l => obtain ⟨vs, e, r⟩ := q; exact ⟨vs, k _ _ e, Rls.go (k.grow _) _ _ r⟩
  | ins c fs => obtain ⟨C, dx, fv, c1, e, r⟩ := q; exact ⟨C, dx, fv, c1, k _ _ e, r.go (k.gro ρ)⟩
/-- read as it stands -/
theorem RlW.rr {S : Sto} (so : StoOk G ρ H S) : ∀ {w : W} {v : V} {p : P}, RlW G ρ H w v → rd S w = some p → Rr G.K (G.ban ρ) H p v
  | .p x, v, p, h, e => by cases e; exact .of h
  | .ref n, v, p, ⟨a, h, ev⟩, e => by
    subst ev
    have e' : (match S[n]? with
      | some (.lst l) => some (P.lst l)
      | _ => none) = some p := e
    cases z : S[n]? with
    | none => rw [z] at e'; cases e'
    | some o =>
      rw [z] at e'
      cases o with
      | ins c fs => cases e'
      | lst l =>
        cases e'
        obtain ⟨vs, h1, r⟩ := so.ob n _ a z h
        exact .live h1 r
  | .scr l, v, p, h, e => by cases e
end

/-! ### what is left to reach -/
/-- an exception as it flies -/
def ExR (G : Gd) (ρ : List Addr) (H : Hp) (e : Exn) (cls : Value) (d : Option Addr) : Prop :=
  ∃ C, G.cls e.cls = some C ∧ cls = .ref C ∧ (e.fs = [] ∨ ∃ dx fvs, d = some dx ∧ H dx = some (.xd fvs) ∧ RlF G ρ H (e.fs.map fun x => (x.1, W.p x.2)) fvs)
def Gv {α β : Type} (G : Gd) (ρ : List Addr) (H : Hp) (X : WX) (σ : L2.St) (R : List Addr → Hp → α → β → Prop) (r : Res α) (Q : β → Hp → Prop) : Prop := match r with
  | .ok w S => ∀ ρ' H' u, Gro ρ H ρ' H' → StoOk G ρ' H' S → R ρ' H' w u → Q u H'
  | .ex e S => ∀ ρ' H' cls d, Gro ρ H ρ' H' → StoOk G ρ' H' S → ExR G ρ' H' e cls d → X cls d σ H'
  | .bad => False
section
variable {G : Gd} {ρ ρ1 ρ2 ρ' : List Addr} {H H1 H2 H' : Hp} {X : WX} {σ : L2.St} {α β γ ε : Type} {R : List Addr → Hp → α → β → Prop} {R' : List Addr → Hp → γ → ε → Prop}
theorem Gv.grow {r : Res α} {Q : β → Hp → Prop} (g : Gro ρ H ρ1 H1) (h : Gv G ρ H X σ R r Q) : Gv G ρ1 H1 X σ R r Q := by
  cases r with
  | ok w S => exact fun ρ' H' u g' => h ρ' H' u (g.trans g')
  | ex e S => exact fun ρ' H' c d g' => h ρ' H' c d (g.trans g')
  | bad => exact h
theorem Gv.step {r : Res α} {f : α → Sto → Res γ} {Q : ε → Hp → Prop} {Q' : β → Hp → Prop} (h : Gv G ρ H X σ R' (r.bind f) Q)
    (k : ∀ w S ρ' H' u, Gro ρ H ρ' H' → StoOk G ρ' H' S → R ρ' H' w u → Gv G ρ' H' X σ R' (f w S) Q → Q' u H') : Gv G ρ H X σ R r Q' := by
  cases r with
  | ok w S => exact fun ρ' H' u g so rl => k w S ρ' H' u g so rl (Gv.grow g h)
  | ex e S => exact h
  | bad => exact h
theorem Gv.at_ {S : Sto} {w : α} {u : β} {Q : β → Hp → Prop} (h : Gv G ρ H X σ R (.ok w S) Q) (so : StoOk G ρ H S) (r : R ρ H w u) : Q u H := h ρ H u (.refl _ _) so r
theorem Gv.ofO {S : Sto} {o : Option α} {Q : β → Hp → Prop} (h : Gv G ρ H X σ R (ofO o S) Q) : ∃ a, o = some a ∧ Gv G ρ H X σ R (.ok a S) Q := by
  cases o with
  | none => exact h.elim
  | some a => exact ⟨a, rfl, h⟩
end
def RB (ρ : List Addr) (H : Hp) (a b : Bool) : Prop := b = a
def tEv (G : Gd) (C : Cl) (X : WX) (m : ME) : TE := fun σ H Q => ∃ δ ρ L S, LocOk (G.dl δ) ρ H L σ ∧ StoOk (G.dl δ) ρ H S ∧ Gv (G.dl δ) ρ H X σ (RlW (G.dl δ)) (ev C m L S) Q
def tEt (G : Gd) (C : Cl) (X : WX) (m : MT) : TT := fun σ H Q => ∃ δ ρ L S, LocOk (G.dl δ) ρ H L σ ∧ StoOk (G.dl δ) ρ H S ∧ Gv (G.dl δ) ρ H X σ RB (evT C m L S) Q
def tEs (G : Gd) (C : Cl) (X : WX) (m : MEs) : TA := fun σ H Q => ∃ δ ρ L S, LocOk (G.dl δ) ρ H L σ ∧ StoOk (G.dl δ) ρ H S ∧ Gv (G.dl δ) ρ H X σ (RlWs (G.dl δ)) (evs C m L S) Q
def RO (ρ : List Addr) (H : Hp) (a b : Option Int) : Prop := b = a
def tEo (G : Gd) (C : Cl) (X : WX) (m : MO) : TO := fun σ H Q => ∃ δ ρ L S, LocOk (G.dl δ) ρ H L σ ∧ StoOk (G.dl δ) ρ H S ∧ Gv (G.dl δ) ρ H X σ RO (evO C m L S) Q
/-- J walks the items l -/
def Walks (G : Gd) (ρ : List Addr) (H : Hp) (l : List P) (J : It) : Prop := ∀ i β H', Grow (G.ban ρ) H β H' →
  (l.length ≤ i → J.stop i H') ∧ (∀ p, l[i]? = some p → J.go i H' ∧ ∀ x H'', J.yld i H' x H'' → Kp H' H'' ∧ Rl G.K β H'' p x)
def tEi (G : Gd) (C : Cl) (X : WX) (m : MI) : TI := fun σ H R => ∃ δ ρ L S, LocOk (G.dl δ) ρ H L σ ∧ StoOk (G.dl δ) ρ H S ∧ Gv (G.dl δ) ρ H X σ (Walks (G.dl δ)) (evI C m L S) R
theorem _root_.L2.PE.weak {X : Cx} {e : Expr} {t t' : TE} (h : PE X e t) (w : ∀ σ H Q, t' σ H Q → t σ H Q) : PE X e t' := ⟨fun pins s σ H Q I q => h.run pins s σ H Q I (w _ _ _ q)⟩
theorem _root_.L2.PT.weak {X : Cx} {e : Expr} {t t' : TT} (h : PT X e t) (w : ∀ σ H Q, t' σ H Q → t σ H Q) : PT X e t' := ⟨fun pins s σ H Q I q => h.run pins s σ H Q I (w _ _ _ q)⟩
theorem _root_.L2.PW.weak {X : Cx} {e : Expr} {t t' : TT} (h : PW X e t) (w : ∀ σ H Q, t' σ H Q → t σ H Q) : PW X e t' := ⟨fun wh pins s σ H Q I q => h.run wh pins s σ H Q I (w _ _ _ q)⟩
theorem _root_.L2.PA.weak {X : Cx} {e : List Expr} {t t' : TA} (h : PA X e t) (w : ∀ σ H Q, t' σ H Q → t σ H Q) : PA X e t' := ⟨fun pos pins s σ H Q I q => h.run pos pins s σ H Q I (w _ _ _ q)⟩
theorem _root_.L2.PO.weak {X : Cx} {e : Option Expr} {t t' : TO} (h : PO X e t) (w : ∀ σ H Q, t' σ H Q → t σ H Q) : PO X e t' := ⟨fun pins s σ H Q I q => h.run pins s σ H Q I (w _ _ _ q)⟩
theorem _root_.L2.PS.weak {X : Cx} {e : Stmt} {t t' : TS} (h : PS X e t) (w : ∀ D σ H, t' D σ H → t D σ H) : PS X e t' := ⟨fun pins s σ H D I q => h.run pins s σ H D I (w _ _ _ q)⟩
theorem _root_.L2.PSs.weak {X : Cx} {e : List Stmt} {t t' : TS} (h : PSs X e t) (w : ∀ D σ H, t' D σ H → t D σ H) : PSs X e t' := ⟨fun pins s σ H D I q => h.run pins s σ H D I (w _ _ _ q)⟩

/-! ### expressions -/
section
variable {X : Cx} {G : Gd} {C : Cl} {Wx : WX} {a b c : Expr} {ma mb mc : ME} {pos : Pos}
theorem se_var {i : Nat} {x : Str} (hN : X.N[i]? = some x) (hv : Vis X.env.scope x) (hd : (x == ("__debug__" : Str)) = false) (hcd : (x == ("__classdict__" : Str)) = false) : PE X (.Name x pos) (tEv G C Wx (.var i)) :=
  (pe_var hN hv hd hcd).weak fun σ H Q ⟨δ, ρ, L, S, lo, so, g⟩ => by
    unfold ev at g
    split at g
    · rename_i w hw
      obtain ⟨v, e, r⟩ := lo.at_ i w hw
      exact ⟨v, e, g.at_ so r⟩
    · exact g.elim
theorem se_glo {x : Str} {q : P} {v : V} {u : Value} (hg : Gl X x) (hm : X.mg x = some u) (r : RelV v u) (hd : (x == ("__debug__" : Str)) = false) (h : ∀ ρ H, Rl G.K ρ H q v) : PE X (.Name x pos) (tEv G C Wx (.glo x q)) :=
  (pe_glob hg hm r hd).weak fun σ H Q ⟨δ, ρ, L, S, lo, so, g⟩ => g.at_ so (h _ _)
def litC : Const → Option P
  | .none => some .non
  | .bool b => some (.bl b)
  | .int i => some (.int i)
  | .str x => if PyData.strOk x = true then some (.str x) else none
  | _ => none
theorem se_lit {k : Const} {j : Nat} {q : P} (h : litC k = some q) : PE X (.Constant k j pos) (tEv G C Wx (.lit q)) := by
  cases k with
  | none => cases h; exact pe_non.weak fun σ H Q ⟨δ, ρ, L, S, lo, so, g⟩ => g.at_ so .non
  | bool b => cases h; exact pe_bl.weak fun σ H Q ⟨δ, ρ, L, S, lo, so, g⟩ => g.at_ so (.bl b)
  | int i => cases h; exact pe_int.weak fun σ H Q ⟨δ, ρ, L, S, lo, so, g⟩ => g.at_ so (.int i)
  | str x =>
    obtain ⟨hz, e⟩ := ite_some (show (if PyData.strOk x = true then some (P.str x) else none) = some q from h)
    subst e
    exact pe_str.weak fun σ H Q ⟨δ, ρ, L, S, lo, so, g⟩ => g.at_ so (.str x hz)
  | _ => cases h
theorem Gives.of {ρ : List Addr} {H : Hp} {S : Sto} {r : P} {σ : L2.St} {Q : VK} (so : StoOk G ρ H S) (g : Gv G ρ H Wx σ (RlW G) (.ok (.p r) S) Q) : Gives G.K (G.ban ρ) H r Q := fun H' u k rl => g ρ H' u (k.gro ρ) (so.kp k) rl
theorem se_bin (hK : X.K = G.K) {op : BOp} (ha : PE X a (tEv G C Wx ma)) (hb : PE X b (tEv G C Wx mb)) : PE X (.BinOp a op.py b pos) (tEv G C Wx (.bin op ma mb)) :=
  (pe_op (op_b op) ha hb).weak fun σ H Q ⟨δ, ρ, L, S, lo, so, g⟩ => by
    unfold ev at g
    refine ⟨δ, ρ, L, S, lo, so, g.step fun w1 S1 ρ1 H1 u1 g1 so1 r1 g => ⟨δ, ρ1, L, S1, lo.go g1, so1, g.step fun w2 S2 ρ2 H2 u2 g2 so2 r2 g => ?_⟩⟩
    obtain ⟨w, e, g⟩ := g.ofO
    obtain ⟨p, e1, e⟩ := Option.bind_eq_some_iff.mp e
    obtain ⟨q, e2, e⟩ := Option.bind_eq_some_iff.mp e
    obtain ⟨r, e3, rfl⟩ := Option.map_eq_some_iff.mp e
    rw [hK]
    exact ⟨(G.dl δ).ban ρ2, p, q, r, so2.there, (r1.go g2).rr so2 e1, r2.rr so2 e2, e3, .of so2 g⟩
theorem se_neg (ha : PE X a (tEv G C Wx ma)) : PE X (.UnaryOp .USub a pos) (tEv G C Wx (.neg ma)) :=
  (pe_un un_neg ha).weak fun σ H Q ⟨δ, ρ, L, S, lo, so, g⟩ => by
    unfold ev at g
    refine ⟨δ, ρ, L, S, lo, so, g.step fun w1 S1 ρ1 H1 u1 g1 so1 r1 g => ?_⟩
    split at g
    · rename_i i
      cases r1
      exact ⟨i, rfl, g.at_ so1 (.int _)⟩
    · exact g.elim
theorem se_cmp (hK : X.K = G.K) (hu : X.A.units + 65 < cLine) {op : COp} (ha : PE X a (tEv G C Wx ma)) (hb : PE X b (tEv G C Wx mb)) (hm : behindInMarks op.py b = false) : PE X (.Compare a [op.py] [b] pos) (tEv G C Wx (.cmp op ma mb)) :=
  (pe_cmpR (op_c hu op) ha hb hm).weak fun σ H Q ⟨δ, ρ, L, S, lo, so, g⟩ => by
    unfold ev at g
    refine ⟨δ, ρ, L, S, lo, so, g.step fun w1 S1 ρ1 H1 u1 g1 so1 r1 g => ⟨δ, ρ1, L, S1, lo.go g1, so1, g.step fun w2 S2 ρ2 H2 u2 g2 so2 r2 g => ?_⟩⟩
    obtain ⟨w, e, g⟩ := g.ofO
    obtain ⟨p, e1, e⟩ := Option.bind_eq_some_iff.mp e
    obtain ⟨q, e2, e⟩ := Option.bind_eq_some_iff.mp e
    obtain ⟨r, e3, rfl⟩ := Option.map_eq_some_iff.mp e
    rw [hK]
    exact ⟨(G.dl δ).ban ρ2, p, q, r, (r1.go g2).rr so2 e1, r2.rr so2 e2, e3, g.at_ so2 (.bl _)⟩
theorem se_cmp2 (hK : X.K = G.K) (hu : X.A.units + 65 < cLine) {op op' : COp} (ha : PE X a (tEv G C Wx ma)) (hb : PE X b (tEv G C Wx mb)) (hc : PE X c (tEv G C Wx mc)) (hm : lastMarks [op.py, op'.py] [b, c] = false) :
    PE X (.Compare a [op.py, op'.py] [b, c] pos) (tEv G C Wx (.cmp2 op op' ma mb mc)) :=
  (pe_chain (op_c hu op) (op_c hu op') ha hb hc hm).weak fun σ H Q ⟨δ, ρ, L, S, lo, so, g⟩ => by
    unfold ev at g
    refine ⟨δ, ρ, L, S, lo, so, g.step fun w1 S1 ρ1 H1 u1 g1 so1 r1 g => ⟨δ, ρ1, L, S1, lo.go g1, so1, g.step fun w2 S2 ρ2 H2 u2 g2 so2 r2 g => ?_⟩⟩
    rw [hK]
    split at g
    · rename_i e
      obtain ⟨p, e1, e⟩ := Option.bind_eq_some_iff.mp e
      obtain ⟨q, e2, e⟩ := Option.bind_eq_some_iff.mp e
      refine ⟨(G.dl δ).ban ρ2, p, q, true, (r1.go g2).rr so2 e1, r2.rr so2 e2, e, true, rfl, ?_⟩
      rw [if_pos rfl]
      refine ⟨δ, ρ2, L, S2, lo.go (g1.trans g2), so2, g.step fun w3 S3 ρ3 H3 u3 g3 so3 r3 g => ?_⟩
      obtain ⟨w, e, g⟩ := g.ofO
      obtain ⟨p', e1', e⟩ := Option.bind_eq_some_iff.mp e
      obtain ⟨q', e2', e⟩ := Option.bind_eq_some_iff.mp e
      obtain ⟨r, e3, rfl⟩ := Option.map_eq_some_iff.mp e
      exact ⟨(G.dl δ).ban ρ3, p', q', r, (r2.go g3).rr so3 e1', r3.rr so3 e2', e3, g.at_ so3 (.bl _)⟩
    · rename_i e
      obtain ⟨p, e1, e⟩ := Option.bind_eq_some_iff.mp e
      obtain ⟨q, e2, e⟩ := Option.bind_eq_some_iff.mp e
      refine ⟨(G.dl δ).ban ρ2, p, q, false, (r1.go g2).rr so2 e1, r2.rr so2 e2, e, false, rfl, ?_⟩
      rw [if_neg (by simp)]
      exact g.at_ so2 (.bl _)
    · exact g.elim
theorem se_not (hK : X.K = G.K) (ha : PE X a (tEv G C Wx ma)) : PE X (.UnaryOp .Not a pos) (tEv G C Wx (.not ma)) :=
  (pe_notT ha).weak fun σ H Q ⟨δ, ρ, L, S, lo, so, g⟩ => by
    unfold ev at g
    refine ⟨δ, ρ, L, S, lo, so, g.step fun w1 S1 ρ1 H1 u1 g1 so1 r1 g => ?_⟩
    obtain ⟨w, e, g⟩ := g.ofO
    obtain ⟨p, e1, e⟩ := Option.bind_eq_some_iff.mp e
    obtain ⟨k, e2, rfl⟩ := Option.map_eq_some_iff.mp e
    rw [hK]
    exact ⟨k, truV_of (r1.rr so1 e1) e2, g.at_ so1 (.bl _)⟩
theorem se_and (hK : X.K = G.K) {rest : List Expr} (ha : PE X a (tEv G C Wx ma)) (hb : PE X (.BoolOp .And (b :: rest) pos) (tEv G C Wx mb)) : PE X (.BoolOp .And (a :: b :: rest) pos) (tEv G C Wx (.and ma mb)) :=
  (pe_andT ha hb).weak fun σ H Q ⟨δ, ρ, L, S, lo, so, g⟩ => by
    unfold ev at g
    refine ⟨δ, ρ, L, S, lo, so, g.step fun w1 S1 ρ1 H1 u1 g1 so1 r1 g => ?_⟩
    rw [hK]
    split at g
    · rename_i e
      obtain ⟨p, e1, e⟩ := Option.bind_eq_some_iff.mp e
      refine ⟨true, truV_of (r1.rr so1 e1) e, ?_⟩
      rw [if_pos rfl]
      exact ⟨δ, ρ1, L, S1, lo.go g1, so1, g⟩
    · rename_i e
      obtain ⟨p, e1, e⟩ := Option.bind_eq_some_iff.mp e
      refine ⟨false, truV_of (r1.rr so1 e1) e, ?_⟩
      rw [if_neg (by simp)]
      exact g.at_ so1 r1
    · exact g.elim
theorem se_or (hK : X.K = G.K) {rest : List Expr} (ha : PE X a (tEv G C Wx ma)) (hb : PE X (.BoolOp .Or (b :: rest) pos) (tEv G C Wx mb)) : PE X (.BoolOp .Or (a :: b :: rest) pos) (tEv G C Wx (.or ma mb)) :=
  (pe_orT ha hb).weak fun σ H Q ⟨δ, ρ, L, S, lo, so, g⟩ => by
    unfold ev at g
    refine ⟨δ, ρ, L, S, lo, so, g.step fun w1 S1 ρ1 H1 u1 g1 so1 r1 g => ?_⟩
    rw [hK]
    split at g
    · rename_i e
      obtain ⟨p, e1, e⟩ := Option.bind_eq_some_iff.mp e
      refine ⟨true, truV_of (r1.rr so1 e1) e, ?_⟩
      rw [if_pos rfl]
      exact g.at_ so1 r1
    · rename_i e
      obtain ⟨p, e1, e⟩ := Option.bind_eq_some_iff.mp e
      refine ⟨false, truV_of (r1.rr so1 e1) e, ?_⟩
      rw [if_neg (by simp)]
      exact ⟨δ, ρ1, L, S1, lo.go g1, so1, g⟩
    · exact g.elim
theorem se_ife {t : Expr} {mt : MT} (ht : PT X t (tEt G C Wx mt)) (ha : PE X a (tEv G C Wx ma)) (hb : PE X b (tEv G C Wx mb)) : PE X (.IfExp t a b pos) (tEv G C Wx (.ife mt ma mb)) :=
  (pe_ifExp ht ha hb).weak fun σ H Q ⟨δ, ρ, L, S, lo, so, g⟩ => by
    unfold ev at g
    refine ⟨δ, ρ, L, S, lo, so, g.step fun w1 S1 ρ1 H1 u1 g1 so1 r1 g => ?_⟩
    cases (show u1 = w1 from r1)
    cases w1 with
    | true => rw [if_pos rfl] at g ⊢; exact ⟨δ, ρ1, L, S1, lo.go g1, so1, g⟩
    | false => rw [if_neg (by simp)] at g ⊢; exact ⟨δ, ρ1, L, S1, lo.go g1, so1, g⟩
/-! argument lists -/
theorem se_nil : PA X [] (tEs G C Wx .nil) := pa_nil.weak fun σ H Q ⟨δ, ρ, L, S, lo, so, g⟩ => by
  unfold evs at g
  exact g.at_ so .nil
theorem se_cons {es : List Expr} {mes : MEs} (ha : PE X a (tEv G C Wx ma)) (hes : PA X es (tEs G C Wx mes)) (hs : starEach (a :: es) X.env = (false, eval a X.env) :: starEach es X.env) : PA X (a :: es) (tEs G C Wx (.cons ma mes)) :=
  (pa_cons ha hes hs).weak fun σ H Q ⟨δ, ρ, L, S, lo, so, g⟩ => by
    unfold evs at g
    refine ⟨δ, ρ, L, S, lo, so, g.step fun w1 S1 ρ1 H1 u1 g1 so1 r1 g => ⟨δ, ρ1, L, S1, lo.go g1, so1, g.step fun w2 S2 ρ2 H2 u2 g2 so2 r2 g => ?_⟩⟩
    exact g.at_ so2 (.cons (r1.go g2) r2)
theorem RlWs.pures {ρ : List Addr} {H : Hp} {S : Sto} : ∀ {ws : List W} {vs : List V} {l : List P}, RlWs G ρ H ws vs → pures S ws = some l → Rls G.K (G.ban ρ) H l vs
  | _, _, l, .nil, e => by cases e; exact .nil
  | _, _, l, .cons (w := w) (ws := ws) h r, e => by
    cases w with
    | p x =>
      obtain ⟨m, e1, rfl⟩ := Option.map_eq_some_iff.mp (show (MP.pures S ws).map (x :: ·) = some l from e)
      exact .cons h (RlWs.pures r e1)
    | _ => cases e
theorem RlWs.rds {ρ : List Addr} {H : Hp} {S : Sto} (so : StoOk G ρ H S) : ∀ {ws : List W} {vs : List V} {l : List P}, RlWs G ρ H ws vs → rds S ws = some l → Rrs G.K (G.ban ρ) H l vs
  | _, _, l, .nil, e => by cases e; exact .nil
  | _, _, l, .cons (w := w) (ws := ws) h r, e => by
    obtain ⟨x, e1, e⟩ := Option.bind_eq_some_iff.mp (show ((rd S w).bind fun x => (MP.rds S ws).map fun xs => x :: xs) = some l from e)
    obtain ⟨m, e2, rfl⟩ := Option.map_eq_some_iff.mp e
    exact .cons (h.rr so e1) (RlWs.rds so r e2)
theorem cut_some {n : Nat} {l m : List P} (h : cut n l = some m) : l.length ≤ n ∧ m = l := by
  obtain ⟨a, b⟩ := ite_some (show (if l.length ≤ n then some l else none) = some m from h)
  exact ⟨a, b.symm⟩
theorem se_tup {es : List Expr} {k : Nat} {mes : MEs} (h : PA X es (tEs G C Wx mes)) : PE X (.Tuple es k pos) (tEv G C Wx (.tup mes)) :=
  (pe_tup h).weak fun σ H Q ⟨δ, ρ, L, S, lo, so, g⟩ => by
    unfold ev at g
    refine ⟨δ, ρ, L, S, lo, so, g.step fun ws S1 ρ1 H1 us g1 so1 r1 g => ?_⟩
    obtain ⟨w, e, g⟩ := g.ofO
    obtain ⟨l, e1, e⟩ := Option.bind_eq_some_iff.mp e
    obtain ⟨m, e2, rfl⟩ := Option.map_eq_some_iff.mp e
    obtain ⟨z, rfl⟩ := cut_some e2
    have rl := r1.pures e1
    exact ⟨by rw [← rl.length]; exact z, fun p hp => (Gives.of so1 g).tup rl hp⟩
theorem se_lst {es : List Expr} {mes : MEs} (h : PA X es (tEs G C Wx mes)) : PE X (.List es pos) (tEv G C Wx (.lst mes)) :=
  (pe_lst h).weak fun σ H Q ⟨δ, ρ, L, S, lo, so, g⟩ => by
    unfold ev at g
    refine ⟨δ, ρ, L, S, lo, so, g.step fun ws S1 ρ1 H1 us g1 so1 r1 g => ?_⟩
    obtain ⟨w, e, g⟩ := g.ofO
    obtain ⟨l, e1, e⟩ := Option.bind_eq_some_iff.mp e
    obtain ⟨m, e2, rfl⟩ := Option.map_eq_some_iff.mp e
    obtain ⟨z, rfl⟩ := cut_some e2
    have rl := r1.pures e1
    exact ⟨by rw [← rl.length]; exact z, fun p hp => (Gives.of so1 g).lst rl so1.there hp⟩
theorem se_idx (hK : X.K = G.K) (ha : PE X a (tEv G C Wx ma)) (hb : PE X b (tEv G C Wx mb)) (hs : PlainIx b) : PE X (.Subscript a b pos) (tEv G C Wx (.idx ma mb)) :=
  (pe_ix ix_p ha hb hs).weak fun σ H Q ⟨δ, ρ, L, S, lo, so, g⟩ => by
    unfold ev at g
    refine ⟨δ, ρ, L, S, lo, so, g.step fun w1 S1 ρ1 H1 u1 g1 so1 r1 g => ⟨δ, ρ1, L, S1, lo.go g1, so1, g.step fun w2 S2 ρ2 H2 u2 g2 so2 r2 g => ?_⟩⟩
    obtain ⟨w, e, g⟩ := g.ofO
    obtain ⟨p, e1, e⟩ := Option.bind_eq_some_iff.mp e
    obtain ⟨q, e2, e⟩ := Option.bind_eq_some_iff.mp e
    obtain ⟨r, e3, rfl⟩ := Option.map_eq_some_iff.mp e
    rw [hK]
    exact ⟨(G.dl δ).ban ρ2, p, q, r, (r1.go g2).rr so2 e1, r2.rr so2 e2, e3, .of so2 g⟩
theorem so_non : PO X none (tEo G C Wx .non) := po_none.weak fun σ H Q ⟨δ, ρ, L, S, lo, so, g⟩ => by
  unfold evO at g
  exact g.at_ so rfl
theorem so_som (ha : PE X a (tEv G C Wx ma)) : PO X (some a) (tEo G C Wx (.som ma)) := (po_some ha).weak fun σ H Q ⟨δ, ρ, L, S, lo, so, g⟩ => by
  unfold evO at g
  refine ⟨δ, ρ, L, S, lo, so, g.step fun w1 S1 ρ1 H1 u1 g1 so1 r1 g => ?_⟩
  split at g
  · rename_i i
    cases r1
    exact ⟨i, rfl, g.at_ so1 rfl⟩
  · exact g.elim
theorem se_slc (hK : X.K = G.K) {lo hi : Option Expr} {ml mh : MO} {p2 : Pos} (ha : PE X a (tEv G C Wx ma)) (hl : PO X lo (tEo G C Wx ml)) (hh : PO X hi (tEo G C Wx mh)) : PE X (.Subscript a (.Slice lo hi none p2) pos) (tEv G C Wx (.slc ma ml mh)) :=
  (pe_slice sl_p ha hl hh).weak fun σ H Q ⟨δ, ρ, L, S, lo, so, g⟩ => by
    unfold ev at g
    refine ⟨δ, ρ, L, S, lo, so, g.step fun w1 S1 ρ1 H1 u1 g1 so1 r1 g => ⟨δ, ρ1, L, S1, lo.go g1, so1, g.step fun w2 S2 ρ2 H2 u2 g2 so2 r2 g => ⟨δ, ρ2, L, S2, lo.go (g1.trans g2), so2, g.step fun w3 S3 ρ3 H3 u3 g3 so3 r3 g => ?_⟩⟩⟩
    cases (show u2 = w2 from r2)
    cases (show u3 = w3 from r3)
    have r1' := r1.go (g2.trans g3)
    rw [hK]
    have rest : ∀ {p r : P}, rd S3 w1 = some p → pslc p w2 w3 = some r → Gv (G.dl δ) ρ3 H3 Wx σ (RlW (G.dl δ)) (.ok (.p r) S3) Q → rSlc G.K u1 w2 w3 H3 Q := fun e1 e3 g => .inl ⟨(G.dl δ).ban ρ3, _, _, so3.there, r1'.rr so3 e1, e3, .of so3 g⟩
    cases w1 with
    | scr m =>
      obtain ⟨a, vs, rfl, h1, r⟩ := r1'
      exact .inr ⟨(G.dl δ).ban ρ3, a, vs, m, so3.there, rfl, h1.sq, r, .of so3 g⟩
    | p x =>
      obtain ⟨w, e, g⟩ := g.ofO
      obtain ⟨p, e1, e⟩ := Option.bind_eq_some_iff.mp e
      obtain ⟨r, e3, rfl⟩ := Option.map_eq_some_iff.mp e
      exact rest e1 e3 g
    | ref n =>
      obtain ⟨w, e, g⟩ := g.ofO
      obtain ⟨p, e1, e⟩ := Option.bind_eq_some_iff.mp e
      obtain ⟨r, e3, rfl⟩ := Option.map_eq_some_iff.mp e
      exact rest e1 e3 g
end
end MP

set_option Elab.async false
set_option linter.all false
set_option maxRecDepth 100000
set_option autoImplicit false
/-! MP5: one frame a level; calls of defs, of methods, of classes. -/
namespace MP
open PySem PySem.Spec PyProof.Rows L2 C8

/-- room for n frames -/
structure RoomE (n : Nat) (A : Around) : Prop where
  calm : A.handled = none
  deep : A.depth + n < recursionLimit
  wide : A.units + 3 * n + 300 < cLine
theorem RoomE.less {m n : Nat} {A : Around} (r : RoomE n A) (h : m ≤ n) : RoomE m A := ⟨r.calm, Nat.lt_of_le_of_lt (Nat.add_le_add_left h _) r.deep, by have := r.wide; omega⟩
theorem RoomE.in_ {n : Nat} {A : Around} (r : RoomE (n + 1) A) (env : Env) : RoomE n (A.deeper env) := by
  refine ⟨r.calm, ?_, ?_⟩
  · have h : (A.deeper env).depth = A.depth + 1 := rfl
    rw [h]; have := r.deep; omega
  · have h : (A.deeper env).units = A.units + 3 := rfl
    rw [h]; have := r.wide; omega
theorem RoomE.mk_ {n : Nat} {A : Around} (r : RoomE (n + 1) A) (C : Addr) (us : List Value) (kw : List (Str × Value)) : RoomE n (A.under (.builtin "type.__call__" ⟨.ref C :: us, kw⟩)) := by
  refine ⟨r.calm, ?_, ?_⟩
  · rw [make_depth]; have := r.deep; omega
  · rw [make_units]; have := r.wide; omega
/-- a def's promise, with n frames of room -/
structure FnE (P : Program) (w : World) (K : PySem.W.Frag) (mg : Str → Option Value) (base : Heap) (n : Nat) (f : Addr) (fd : FuncData) (ps : List Str) (sp : Sp) : Prop where
  many : ∀ vs H Q E, sp vs H Q E → vs.length = ps.length
  goes : ∀ (A : Around) (outer : List Env) (s : Shared) (H : Hp) (args : Args) (us : List Value) (vs : List V) (Q : VK) (E : XK), RoomE n A → Env0 P w K mg base A outer s H →
    BindsTo s fd args (ps.zip us) → Vals vs us → sp vs H Q E → codeAny (model P w) A (.call (.ref f) args) (CR (L2.CX P w) outer P w H s Q E) s
section
variable {P : Program} {w : World} {K : PySem.W.Frag} {mg : Str → Option Value} {base : Heap}
/-- by its body -/
theorem fnE_of {n : Nat} {f : Addr} {x qual : Str} {st : Stmt} {fd : FuncData} {N ps : List Str} {sp : Sp} (F : Fun K x qual st f fd) (S : FnScope N ps (fnScope st)) (many : ∀ vs H Q E, sp vs H Q E → vs.length = ps.length)
    (body : ∀ (cdv : Value) (A : Around) (outer : List Env) (s : Shared) (H : Hp) (vs : List V) (Q : VK) (E : XK), RoomE n (A.deeper (envOfC qual (fnScope st) s.heap.objs.size f cdv)) → sp vs H Q E →
      ∃ t, PSs (cxOf (L2.CX P w) P w K mg base N qual (fnScope st) f cdv A outer s H E) (fnBody st) t ∧ t { nx := fun _ H' => Q .non H', rt := Q } (start N vs) H) : FnE P w K mg base (n + 1) f fd ps sp := by
  obtain ⟨oc, od, dV, kV, doc, pm, an, cdv, ct, osl, rfl, lk, hcd⟩ := F.ex
  refine ⟨many, fun A outer s H args us vs Q E room e0 hb rv hs => ?_⟩
  have len := many _ _ _ _ hs
  have stays : ∀ b o, base.get? b = some o → s.heap.get? b = some o := fun b o e => (e0.bs b o e).1
  have KX : K.In s.heap := e0.mod.kin.keeps stays
  have kinds : ∀ y ∈ ps.zip us, (fnScope st).names.lookup y.1 = some .local ∨ ((fnScope st).names.lookup y.1 = some .cell ∧ ((cellsFrom (s.heap.objs.size + 1) (fnScope st).names []).lookup y.1).isSome = true) := fun ⟨m, v⟩ hy =>
    (S.par m (List.of_mem_zip hy).1).imp id fun q => ⟨q, PySem.W.cellsFrom_some _ _ _ (.inl q)⟩
  have deep : A.depth < recursionLimit := by have := room.deep; omega
  refine codeAny_call_function deep (KX _ _ lk) rfl S.co S.gen rfl (PySem.W.codeRec_of KX hcd) (hb _ _ _ _ (wpAny_newFunctionEnv_cells S.kind kinds fun env he s1 x => ?_))
  subst he
  obtain ⟨t, ht, hq⟩ := body cdv A outer s H vs Q E (room.in_ _) hs
  have I := inv_start (CX := L2.CX P w) (E := E) S room.calm e0 len rv x
  refine ⟨(e0.mod.nolimit.keeps stays).keeps x.toInCall.keep, codeAny_func (wpAny_mono (ht.run [] s1 (start N vs) H _ I hq) (fun fl s' end_ => ?_) fun e s' left => left)⟩
  cases fl with
  | ret u => obtain ⟨v, σ', H', J, rv, q⟩ := end_; exact ⟨v, H', J.os, J.bare, J.base, J.hok, rv, q⟩
  | next => obtain ⟨σ', H', J, q⟩ := end_; exact ⟨V.non, H', J.os, J.bare, J.base, J.hok, rfl, q⟩
  | brk => obtain ⟨_, _, _, q⟩ := end_; exact q.elim
  | cont => obtain ⟨_, _, _, q⟩ := end_; exact q.elim
theorem FnE.never {n : Nat} {f : Addr} {fd : FuncData} {ps : List Str} {sp : Sp} (h : ∀ vs H Q E, ¬ sp vs H Q E) : FnE P w K mg base n f fd ps sp :=
  ⟨fun vs H Q E q => (h _ _ _ _ q).elim, fun A outer s H args us vs Q E _ _ _ _ q => (h _ _ _ _ q).elim⟩
end

/-- not starred -/
def nst : Expr → Bool
  | .Starred _ _ => false
  | _ => true
theorem star_cons {e : Expr} {es : List Expr} {env : Env} (h : nst e = true) : starEach (e :: es) env = (false, eval e env) :: starEach es env := by
  cases e <;> first | rfl | cases h
theorem star_any {pos : Pos} {env : Env} : ∀ {es : List Expr}, (es.all nst) = true → (backTo pos (starEach es env)).any (·.1) = false
  | [], _ => rfl
  | e :: es, h => by
    obtain ⟨h1, h2⟩ := Bool.and_eq_true_iff.mp (show (nst e && es.all nst) = true from h)
    rw [star_cons h1]
    exact star_any (pos := pos) h2

section
variable {X : Cx} {f C : Addr} {fd : FuncData} {ps : List Str} {sp : Sp} {E : L2.St → XK} {n : Nat} {x m : Str} {p pos apos : Pos} {e o : Expr} {es : List Expr} {ta : TE} {t : TA}
theorem runE {pins : List (Addr × Obj)} {σ : L2.St} {H : Hp} {s : Shared} {Q : VK} {us : List Value} {vs : List V} (F : FnE X.prog X.w X.K X.mg X.base n f fd ps sp) (room : RoomE n X.A) (hb : Binds X.K fd ps []) (hx : PassesAt (L2.CX X.prog X.w) X σ (E σ))
    (I : Inv X pins σ H s) (r : Vals vs us) (h : sp vs H Q (E σ)) : wpAny (model X.prog X.w) X.A (call (.ref f) us) (EP X pins σ Q) X.xe s := by
  have many : (us ++ []).length = ps.length := by rw [List.append_nil, ← r.length]; exact F.many _ _ _ _ h
  have b := hb s us I.kIn many
  rw [List.append_nil] at b
  refine wpAny_call (codeAny_mono (F.goes X.A X.stack s H ⟨us, []⟩ us vs Q (E σ) room I.env0 b r h) fun res s' end_ => ?_)
  match res, end_ with
  | .error e, end_ => exact hx pins H s e s' I end_
  | .ok (.ret u), end_ => exact I.after end_
  | .ok .next, end_ => exact end_.elim
  | .ok .brk, end_ => exact end_.elim
  | .ok .cont, end_ => exact end_.elim
/-- f() -/
theorem callE0 (F : FnE X.prog X.w X.K X.mg X.base n f fd ps sp) (room : RoomE n X.A) (hg : Gl X x) (hm : X.mg x = some (.ref f)) (hk : PySem.W.keepIn X.K (.ref f) = true) (hb : Binds X.K fd ps []) (hx : ∀ σ, PassesAt (L2.CX X.prog X.w) X σ (E σ))
    (hdb : (x == ("__debug__" : Str)) = false) : PE X (.Call (.Name x p) [] [] pos) (fun σ H Q => sp [] H Q (E σ)) :=
  ⟨fun pins s σ H Q I h => wpAny_Call_Name_kw (ld_glob I hg hm (PySem.W.callWith_K0 I.kIn hk (runE (us := []) F room hb (hx σ) I .nil h)) hdb)⟩
/-- f(e, ..) -/
theorem callE (F : FnE X.prog X.w X.K X.mg X.base n f fd ps sp) (room : RoomE n X.A) (hg : Gl X x) (hm : X.mg x = some (.ref f)) (hk : PySem.W.keepIn X.K (.ref f) = true) (hb : Binds X.K fd ps []) (hx : ∀ σ, PassesAt (L2.CX X.prog X.w) X σ (E σ))
    (ha : PA X (e :: es) t) (hn : (e :: es).all nst = true) (hdb : (x == ("__debug__" : Str)) = false) : PE X (.Call (.Name x p) (e :: es) [] pos) (fun σ H Q => t σ H fun vs H1 => sp vs H1 Q (E σ)) := by
  obtain ⟨h1, h2⟩ := Bool.and_eq_true_iff.mp (show (nst e && es.all nst) = true from hn)
  exact ⟨fun pins s σ H Q I h => wpAny_Call_Name_kw (ld_glob I hg hm
    (PySem.W.callWith_K (h₀ := X.base) I.ok.mod.kin hk (thn (ha.run pos pins s σ H _ I h) fun us s1 ⟨vs, H1, I1, r, q⟩ => ⟨I1.kIn, runE F room hb (hx σ) I1 r q⟩) (star_cons h1) (star_any h2)) hdb)⟩
/-- what o.m(..) is -/
def Plainly (X : Cx) (o : Expr) (m : Str) (apos pos : Pos) (es : List Expr) : Prop := ∃ pl : Sem Bool, eval (.Call (.Attribute o m apos) es [] pos) X.env = (do
  let ov ← eval o X.env
  standAt apos.atName
  let (f, first) ← holding [ov] (getMethod ov m pl)
  callWith pos f first (backTo pos (starEach es X.env)) (backToKw pos (keywordEach [] X.env)))
/-- an object's method: chosen by the run -/
def tMe (X : Cx) (n : Nat) (m : Str) (E : L2.St → XK) (ta : TE) (t : TA) : TE := fun σ H Q => ta σ H fun v H1 => ∃ a C dx fs g fd ps sp, v = V.ref a ∧ H1 a = some (.ins C dx fs) ∧ fs.lookup m = none ∧ Cls X.K C ∧ Meth X.K C m g ∧
  FnE X.prog X.w X.K X.mg X.base n g fd ps sp ∧ Binds X.K fd ps [] ∧ t σ H1 fun vs H2 => sp (V.ref a :: vs) H2 Q (E σ)
theorem methE (room : RoomE n X.A) (hx : ∀ σ, PassesAt (L2.CX X.prog X.w) X σ (E σ)) (he : PE X o ta) (ha : PA X (e :: es) t) (hn : (e :: es).all nst = true) (pl : Plainly X o m apos pos (e :: es)) :
    PE X (.Call (.Attribute o m apos) (e :: es) [] pos) (tMe X n m E ta t) := by
  obtain ⟨h1, h2⟩ := Bool.and_eq_true_iff.mp (show (nst e && es.all nst) = true from hn)
  obtain ⟨pl, ht⟩ := pl
  refine ⟨fun pins s σ H Q I h => PySem.W.methodCall_KW (pl := pl) (thn (he.run pins s σ H _ I h) fun u s1 ⟨v, H1, I1, rv, a, C, dx, fs, g, fd, ps, sp, ev, ea, el, c, me, F, hb, q⟩ => ?_) ht⟩
  subst ev
  cases rv
  exact getmeth_ok I1 ea c me el (PySem.W.callWith_K (first := [.ref a]) (h₀ := X.base) I.ok.mod.kin me.kp
    (thn (ha.run pos pins s1 σ H1 _ I1 q) fun us s2 ⟨vs, H2, I2, r, q2⟩ => ⟨I2.kIn, runE (us := .ref a :: us) (vs := .ref a :: vs) F room hb (hx σ) I2 (.cons rfl r) q2⟩) (star_cons h1) (star_any h2))
theorem methE0 (room : RoomE n X.A) (hx : ∀ σ, PassesAt (L2.CX X.prog X.w) X σ (E σ)) (he : PE X o ta) (pl : Plainly X o m apos pos []) :
    PE X (.Call (.Attribute o m apos) [] [] pos) (tMe X n m E ta tNil) := by
  obtain ⟨pl, ht⟩ := pl
  refine ⟨fun pins s σ H Q I h => PySem.W.methodCall_KW (pl := pl) (thn (he.run pins s σ H _ I h) fun u s1 ⟨v, H1, I1, rv, a, C, dx, fs, g, fd, ps, sp, ev, ea, el, c, me, F, hb, q⟩ => ?_) ht⟩
  subst ev
  cases rv
  exact getmeth_ok I1 ea c me el (PySem.W.callWith_K0 (first := [.ref a]) I1.kIn me.kp (runE (us := [.ref a]) (vs := [.ref a]) F room hb (hx σ) I1 (.cons rfl .nil) q))
/-- C(e, ..) -/
theorem makeE (M : Mk X.K C f) (F : FnE X.prog X.w X.K X.mg X.base n f fd ps sp) (room : RoomE (n + 1) X.A) (hg : Gl X x) (hm : X.mg x = some (.ref C)) (hb : Binds X.K fd ps []) (hx : ∀ σ, PassesAt (L2.CX X.prog X.w) X σ (E σ))
    (ha : PA X (e :: es) t) (hn : (e :: es).all nst = true) (hdb : (x == ("__debug__" : Str)) = false) :
    PE X (.Call (.Name x p) (e :: es) [] pos) (fun σ H Q => t σ H fun vs H1 => ∀ a dx, H1 a = none → H1 dx = none → dx ≠ a → sp (.ref a :: vs) (upd (upd H1 dx (.own a)) a (.ins C dx [])) (fun v H2 => v = .non ∧ Q (.ref a) H2) (E σ)) := by
  obtain ⟨h1, h2⟩ := Bool.and_eq_true_iff.mp (show (nst e && es.all nst) = true from hn)
  refine ⟨fun pins s σ H Q I h => wpAny_Call_Name_kw (ld_glob I hg hm (PySem.W.callWith_K (h₀ := X.base) I.ok.mod.kin M.kp
    (thn (ha.run pos pins s σ H _ I h) fun us s1 ⟨vs, H1, I1, r, q⟩ => ⟨I1.kIn, ?_⟩) (star_cons h1) (star_any h2)) hdb)⟩
  have q := q (s1.heap.objs.size + 1) s1.heap.objs.size (I1.hok.fresh (Nat.le_succ _)) (I1.hok.fresh (Nat.le_refl _)) (Nat.ne_of_lt (Nat.lt_succ_self _))
  have J := Inv.made (C := C) I1
  have rr : Vals (V.ref (s1.heap.objs.size + 1) :: vs) (Value.ref (s1.heap.objs.size + 1) :: us) := .cons rfl r
  have many : (Value.ref (s1.heap.objs.size + 1) :: us).length = ps.length := rr.length.symm.trans (F.many _ _ _ _ q)
  have b := hb _ (Value.ref (s1.heap.objs.size + 1) :: us) J.kIn (by rw [List.append_nil]; exact many)
  rw [List.append_nil] at b
  refine wpAny_call (make_map (f := f) I1.kIn M.makes M.init (beq_iff_eq.mp M.fn) (codeAny_mono (F.goes _ X.stack _ _ ⟨Value.ref (s1.heap.objs.size + 1) :: us, []⟩ _ _ _ (E σ) (room.mk_ C us []) (J.env0.make C us []) b rr q) fun res s' end_ => ?_))
  match res, end_ with
  | .error e, end_ => exact hx σ pins _ _ e s' J end_
  | .ok (.ret u), end_ =>
    obtain ⟨v, H', I3, rv, ev, q3⟩ := J.after end_
    subst ev
    exact ⟨rv, ⟨V.ref (s1.heap.objs.size + 1), H', I3, rfl, q3⟩⟩
  | .ok .next, end_ => exact end_.elim
  | .ok .brk, end_ => exact end_.elim
  | .ok .cont, end_ => exact end_.elim
end
end MP

set_option Elab.async false
set_option linter.all false
set_option maxRecDepth 100000
set_option autoImplicit false
/-! MP6: tests, built-ins, calls, attributes, what is walked. -/
namespace MP
open PySem PySem.Spec PyProof.Rows L2 C8

/-- a def's promise by the evaluator -/
def spF (G : Gd) (r : List W → Sto → Res W) : Sp := fun vs H Q E => ∃ δ ρ S ws, RlWs (G.dl δ) ρ H ws vs ∧ StoOk (G.dl δ) ρ H S ∧
  Gv (G.dl δ) ρ H (fun c d _ H' => E c d H') [] (RlW (G.dl δ)) (r ws S) Q
theorem spF_bad {G : Gd} {r : List W → Sto → Res W} (h : ∀ ws S, r ws S = .bad) : ∀ vs H Q E, ¬ spF G r vs H Q E := fun vs H Q E ⟨δ, ρ, S, ws, _, _, g⟩ => by
  rw [h] at g
  exact g
def FnG (X : Cx) (G : Gd) (n : Nat) (r : List W → Sto → Res W) (g : Addr) : Prop := ∃ fd ps, FnE X.prog X.w X.K X.mg X.base n g fd ps (spF G r) ∧ Binds X.K fd ps []
/-- what stands in the module, at n frames of room -/
structure Has (X : Cx) (G : Gd) (C : Cl) (n : Nat) (T : Tb) : Prop where
  fn : ∀ f, (T.fn f).isSome = true → ∃ a, FnG X G (n + 1) (C.fn f) a ∧ X.mg f = some (.ref a) ∧ PySem.W.keepIn X.K (.ref a) = true
  met : ∀ c m, (T.met c m).isSome = true → ∃ Ca g, G.ob c = some Ca ∧ Meth X.K Ca m g ∧ FnG X G (n + 1) (C.met c m) g
  hasM : ∀ c m, C.hasM c m = true → (T.met c m).isSome = true
  ini : ∀ c, (T.met c "__init__").isSome = true → ∃ Ca g, G.ob c = some Ca ∧ X.mg c = some (.ref Ca) ∧ Mk X.K Ca g ∧ FnG X G n (C.ini c) g
  obj : ∀ c Ca, G.ob c = some Ca → Cls X.K Ca

section
variable {X : Cx} {G : Gd} {C : Cl} {Wx : WX} {a b c : Expr} {ma mb mc : ME} {pos : Pos} {es : List Expr} {mes : MEs} {n : Nat} {T : Tb}
/-! tests -/
theorem st_val (hK : X.K = G.K) (ha : PE X a (tEv G C Wx ma)) (he : ∀ whole, isTrue a X.env whole = (do let v ← whole; standAt a.pos; holding [v] (truthy v))) : PT X a (tEt G C Wx (.val ma)) :=
  (pt_truth ha he).weak fun σ H Q ⟨δ, ρ, L, S, lo, so, g⟩ => by
    unfold evT at g
    refine ⟨δ, ρ, L, S, lo, so, g.step fun w1 S1 ρ1 H1 u1 g1 so1 r1 g => ?_⟩
    obtain ⟨k, e, g⟩ := g.ofO
    obtain ⟨p, e1, e⟩ := Option.bind_eq_some_iff.mp e
    rw [hK]
    exact ⟨k, truV_of (r1.rr so1 e1) e, g.at_ so1 rfl⟩
theorem bl_of {ρ : List Addr} {H : Hp} {S : Sto} {k : Bool} {Q : Bool → Hp → Prop} {σ : L2.St} {δ : List Addr} (so : StoOk (G.dl δ) ρ H S)
    (g : Gv (G.dl δ) ρ H Wx σ RB ((Res.ok (W.p (.bl k)) S).bind fun x S => ofO ((rd S x).bind truth) S) Q) : Q k H := Gv.at_ (show Gv (G.dl δ) ρ H Wx σ RB (.ok k S) Q from g) so rfl
theorem st_cmp (hK : X.K = G.K) (hu : X.A.units + 65 < cLine) {op : COp} (ha : PE X a (tEv G C Wx ma)) (hb : PE X b (tEv G C Wx mb)) (hm : behindInMarks op.py b = false) : PT X (.Compare a [op.py] [b] pos) (tEt G C Wx (.val (.cmp op ma mb))) :=
  (pt_cmpR (op_c hu op) ha hb hm).weak fun σ H Q ⟨δ, ρ, L, S, lo, so, g⟩ => by
    unfold evT ev at g
    have assoc : ∀ {α β γ : Type} (r : Res α) (f : α → Sto → Res β) (h : β → Sto → Res γ), (r.bind f).bind h = r.bind fun x S => (f x S).bind h := fun r f h => by cases r <;> rfl
    rw [assoc] at g
    refine ⟨δ, ρ, L, S, lo, so, g.step fun w1 S1 ρ1 H1 u1 g1 so1 r1 g => ?_⟩
    rw [assoc] at g
    refine ⟨δ, ρ1, L, S1, lo.go g1, so1, g.step fun w2 S2 ρ2 H2 u2 g2 so2 r2 g => ?_⟩
    cases e : (rd S2 w1).bind fun p => (rd S2 w2).bind fun q => (cop op p q).map fun k => W.p (.bl k) with
    | none => rw [e] at g; exact g.elim
    | some w =>
      rw [e] at g
      obtain ⟨p, e1, e⟩ := Option.bind_eq_some_iff.mp e
      obtain ⟨q, e2, e⟩ := Option.bind_eq_some_iff.mp e
      obtain ⟨r, e3, rfl⟩ := Option.map_eq_some_iff.mp e
      rw [hK]
      exact ⟨(G.dl δ).ban ρ2, p, q, r, (r1.go g2).rr so2 e1, r2.rr so2 e2, e3, r, rfl, bl_of so2 g⟩
theorem st_cmp2 (hK : X.K = G.K) (hu : X.A.units + 65 < cLine) {op op' : COp} (ha : PE X a (tEv G C Wx ma)) (hb : PE X b (tEv G C Wx mb)) (hc : PE X c (tEv G C Wx mc)) (hm : lastMarks [op.py, op'.py] [b, c] = false) :
    PT X (.Compare a [op.py, op'.py] [b, c] pos) (tEt G C Wx (.val (.cmp2 op op' ma mb mc))) :=
  (pt_chain (op_c hu op) (op_c hu op') ha hb hc hm).weak fun σ H Q ⟨δ, ρ, L, S, lo, so, g⟩ => by
    unfold evT ev at g
    have assoc : ∀ {α β γ : Type} (r : Res α) (f : α → Sto → Res β) (h : β → Sto → Res γ), (r.bind f).bind h = r.bind fun x S => (f x S).bind h := fun r f h => by cases r <;> rfl
    rw [assoc] at g
    refine ⟨δ, ρ, L, S, lo, so, g.step fun w1 S1 ρ1 H1 u1 g1 so1 r1 g => ?_⟩
    rw [assoc] at g
    refine ⟨δ, ρ1, L, S1, lo.go g1, so1, g.step fun w2 S2 ρ2 H2 u2 g2 so2 r2 g => ?_⟩
    rw [hK]
    split at g
    · rename_i e
      obtain ⟨p, e1, e⟩ := Option.bind_eq_some_iff.mp e
      obtain ⟨q, e2, e⟩ := Option.bind_eq_some_iff.mp e
      refine ⟨(G.dl δ).ban ρ2, p, q, true, (r1.go g2).rr so2 e1, r2.rr so2 e2, e, true, rfl, ?_⟩
      rw [if_pos rfl]
      rw [assoc] at g
      refine ⟨δ, ρ2, L, S2, lo.go (g1.trans g2), so2, g.step fun w3 S3 ρ3 H3 u3 g3 so3 r3 g => ?_⟩
      cases e : (rd S3 w2).bind fun p => (rd S3 w3).bind fun q => (cop op' p q).map fun k => W.p (.bl k) with
      | none => rw [e] at g; exact g.elim
      | some w =>
        rw [e] at g
        obtain ⟨p', e1', e⟩ := Option.bind_eq_some_iff.mp e
        obtain ⟨q', e2', e⟩ := Option.bind_eq_some_iff.mp e
        obtain ⟨r, e3, rfl⟩ := Option.map_eq_some_iff.mp e
        exact ⟨(G.dl δ).ban ρ3, p', q', r, (r2.go g3).rr so3 e1', r3.rr so3 e2', e3, r, rfl, bl_of so3 g⟩
    · rename_i e
      obtain ⟨p, e1, e⟩ := Option.bind_eq_some_iff.mp e
      obtain ⟨q, e2, e⟩ := Option.bind_eq_some_iff.mp e
      refine ⟨(G.dl δ).ban ρ2, p, q, false, (r1.go g2).rr so2 e1, r2.rr so2 e2, e, false, rfl, ?_⟩
      rw [if_neg (by simp)]
      exact ⟨false, rfl, bl_of so2 g⟩
    · exact g.elim
theorem st_not {t : Expr} {mt : MT} (h : PT X t (tEt G C Wx mt)) : PT X (.UnaryOp .Not t pos) (tEt G C Wx (.not mt)) :=
  (pt_not h).weak fun σ H Q ⟨δ, ρ, L, S, lo, so, g⟩ => by
    unfold evT at g
    refine ⟨δ, ρ, L, S, lo, so, g.step fun w1 S1 ρ1 H1 u1 g1 so1 r1 g => ?_⟩
    cases (show u1 = w1 from r1)
    exact g.at_ so1 rfl
theorem sw_and1 {t : Expr} {mt : MT} (h : PT X t (tEt G C Wx mt)) : PW X (.BoolOp .And [t] pos) (tEt G C Wx mt) := pw_and1 h
theorem sw_or1 {t : Expr} {mt : MT} (h : PT X t (tEt G C Wx mt)) : PW X (.BoolOp .Or [t] pos) (tEt G C Wx mt) := pw_or1 h
theorem sw_and {t u : Expr} {mt mu : MT} {rest : List Expr} (h : PT X t (tEt G C Wx mt)) (h' : PW X (.BoolOp .And (u :: rest) pos) (tEt G C Wx mu)) : PW X (.BoolOp .And (t :: u :: rest) pos) (tEt G C Wx (.and mt mu)) :=
  (pw_and h h').weak fun σ H Q ⟨δ, ρ, L, S, lo, so, g⟩ => by
    unfold evT at g
    refine ⟨δ, ρ, L, S, lo, so, g.step fun w1 S1 ρ1 H1 u1 g1 so1 r1 g => ?_⟩
    cases (show u1 = w1 from r1)
    cases w1 with
    | true => rw [if_pos rfl] at g ⊢; exact ⟨δ, ρ1, L, S1, lo.go g1, so1, g⟩
    | false => rw [if_neg (by simp)] at g ⊢; exact g.at_ so1 rfl
theorem sw_or {t u : Expr} {mt mu : MT} {rest : List Expr} (h : PT X t (tEt G C Wx mt)) (h' : PW X (.BoolOp .Or (u :: rest) pos) (tEt G C Wx mu)) : PW X (.BoolOp .Or (t :: u :: rest) pos) (tEt G C Wx (.or mt mu)) :=
  (pw_or h h').weak fun σ H Q ⟨δ, ρ, L, S, lo, so, g⟩ => by
    unfold evT at g
    refine ⟨δ, ρ, L, S, lo, so, g.step fun w1 S1 ρ1 H1 u1 g1 so1 r1 g => ?_⟩
    cases (show u1 = w1 from r1)
    cases w1 with
    | true => rw [if_pos rfl] at g ⊢; exact g.at_ so1 rfl
    | false => rw [if_neg (by simp)] at g ⊢; exact ⟨δ, ρ1, L, S1, lo.go g1, so1, g⟩
/-! built-ins -/
theorem bif_of (hK : X.K = G.K) {f : BF} {σ : L2.St} {H : Hp} {Q : VK} (h : tEv G C Wx (.bif f mes) σ H Q) : tCB (rF X.K f) (tEs G C Wx mes) σ H Q := by
  obtain ⟨δ, ρ, L, S, lo, so, g⟩ := h
  unfold ev at g
  refine ⟨δ, ρ, L, S, lo, so, g.step fun ws S1 ρ1 H1 us g1 so1 r1 g => ?_⟩
  obtain ⟨w, e, g⟩ := g.ofO
  obtain ⟨l, e1, e⟩ := Option.bind_eq_some_iff.mp e
  obtain ⟨r, e2, rfl⟩ := Option.map_eq_some_iff.mp e
  rw [hK]
  exact ⟨(G.dl δ).ban ρ1, l, r, so1.there, r1.rds so1 e1, e2, .of so1 g⟩
theorem se_bif (hK : X.K = G.K) {id : String} {x : Str} {p : Pos} {f : BF} (hf : f.py = .builtin id) (hc : X.calm = true) (hg : Gl X x) (hm : X.mg x = none) (hv : bootBuiltins x = some (.builtin id)) (ha : PA X (a :: es) (tEs G C Wx mes)) (hn : (a :: es).all nst = true)
    (hx : x ≠ "__name__") (hdb : (x == ("__debug__" : Str)) = false) : PE X (.Call (.Name x p) (a :: es) [] pos) (tEv G C Wx (.bif f mes)) := by
  obtain ⟨h1, h2⟩ := Bool.and_eq_true_iff.mp (show (nst a && es.all nst) = true from hn)
  exact (pe_callB (r := rF X.K f) (hf ▸ call_f hc f) hg hm hv ha hx hdb (star_cons h1) (star_any h2)).weak fun σ H Q h => bif_of hK h
theorem se_bifT (hK : X.K = G.K) {id : String} {x : Str} {p : Pos} {f : BF} (hf : f.py = .type id) (hc : X.calm = true) (hg : Gl X x) (hm : X.mg x = none) (hv : bootBuiltins x = some (.type id)) (ha : PA X (a :: es) (tEs G C Wx mes)) (hn : (a :: es).all nst = true)
    (hx : x ≠ "__name__") (hdb : (x == ("__debug__" : Str)) = false) : PE X (.Call (.Name x p) (a :: es) [] pos) (tEv G C Wx (.bif f mes)) := by
  obtain ⟨h1, h2⟩ := Bool.and_eq_true_iff.mp (show (nst a && es.all nst) = true from hn)
  exact (pe_callTy (r := rF X.K f) (hf ▸ call_f hc f) hg hm hv ha hx hdb (star_cons h1) (star_any h2)).weak fun σ H Q h => bif_of hK h
/-- list(a) -/
theorem se_lof (hK : X.K = G.K) {x : Str} {p : Pos} (hg : Gl X x) (hm : X.mg x = none) (hv : bootBuiltins x = some (.type "list")) (ha : PE X a (tEv G C Wx ma)) (hn : nst a = true)
    (hx : x ≠ "__name__") (hdb : (x == ("__debug__" : Str)) = false) : PE X (.Call (.Name x p) [a] [] pos) (tEv G C Wx (.lof ma)) :=
  (pe_callTy call_list_of hg hm hv (pa_cons ha pa_nil (star_cons hn)) hx hdb (star_cons hn) rfl).weak fun σ H Q ⟨δ, ρ, L, S, lo, so, g⟩ => by
    unfold ev at g
    refine ⟨δ, ρ, L, S, lo, so, g.step fun w S1 ρ1 H1 u g1 so1 r1 g => ?_⟩
    obtain ⟨w', e, g⟩ := g.ofO
    obtain ⟨l, e1, rfl⟩ := Option.map_eq_some_iff.mp e
    have pl : ∀ p, rd S1 w = some p → P.items? p = some l → ∃ q ys, [u] = [V.ref q] ∧ (SqL X.K H1 q ys ∨ SqT X.K H1 q ys) ∧ ∀ l, H1 l = none → Q (.ref l) (upd H1 l (.lst ys)) := fun p e1 e2 => by
      have r := r1.rr so1 e1
      cases p with
      | tup m =>
        cases e2
        obtain ⟨a, vs, rfl, h1, r⟩ := r.tup
        exact ⟨a, vs, rfl, .inr (hK ▸ h1), fun q hq => (Gives.of so1 g).lst r so1.there hq⟩
      | lst m =>
        cases e2
        obtain ⟨a, vs, rfl, h1, r⟩ := r.lst
        exact ⟨a, vs, rfl, .inl (SqL.of h1), fun q hq => (Gives.of so1 g).lst r so1.there hq⟩
      | _ => cases e2
    cases w with
    | scr m =>
      cases e1
      obtain ⟨a, vs, rfl, h1, r⟩ := r1
      exact ⟨a, vs, rfl, .inl (hK ▸ h1.sq), fun q hq => (Gives.of so1 g).lst r so1.there hq⟩
    | p x =>
      obtain ⟨p, e1, e2⟩ := Option.bind_eq_some_iff.mp (show (rd S1 (.p x)).bind P.items? = some l from e1)
      exact pl p e1 e2
    | ref n =>
      obtain ⟨p, e1, e2⟩ := Option.bind_eq_some_iff.mp (show (rd S1 (.ref n)).bind P.items? = some l from e1)
      exact pl p e1 e2
/-- isinstance(a, T) -/
theorem se_isi (hK : X.K = G.K) {p p2 : Pos} {x : Str} {Ty : Ty} (hg : Gl X "isinstance") (hm : X.mg "isinstance" = none) (hg2 : Gl X x) (hm2 : X.mg x = none) (hv : bootBuiltins x = some (.type Ty.name)) (ha : PE X a (tEv G C Wx ma)) (hn : nst a = true)
    (hx : x ≠ "__name__") (hdb : (x == ("__debug__" : Str)) = false) : PE X (.Call (.Name "isinstance" p) [a, .Name x p2] [] pos) (tEv G C Wx (.isi ma Ty)) :=
  (pe_callB call_isi hg hm boot_isinstance (pa_cons ha (pa_cons (pe_bltn (v := .ty Ty.name) hg2 hm2 hv rfl hx hdb) pa_nil) (star_cons hn)) (by decide) (by decide) (star_cons hn) rfl).weak fun σ H Q ⟨δ, ρ, L, S, lo, so, g⟩ => by
    unfold ev at g
    refine ⟨δ, ρ, L, S, lo, so, g.step fun w S1 ρ1 H1 u g1 so1 r1 g => ?_⟩
    obtain ⟨w', e, g⟩ := g.ofO
    obtain ⟨l, e1, rfl⟩ := Option.map_eq_some_iff.mp e
    refine ⟨u, .ty Ty.name, .type l.ty, .type Ty.name, isT Ty l, rfl, ?_, ?_, ?_, g.at_ so1 (.bl _)⟩
    · first | exact .ty _ | exact ClsV.ty _ | exact .inl ⟨_, rfl, rfl⟩
    · exact hK ▸ tyX_of (r1.rr so1 e1)
    · exact kit_p _ _ _
/-! defs -/
theorem se_call {f : Str} {p : Pos} (hs : Has X G C n T) (room : RoomE (n + 1) X.A) (tk : Takes X Wx) (hg : Gl X f) (hf : (T.fn f).isSome = true) (ha : PA X es (tEs G C Wx mes)) (hn : es.all nst = true) (hdb : (f == ("__debug__" : Str)) = false)
    (h0 : es = [] → mes = .nil) : PE X (.Call (.Name f p) es [] pos) (tEv G C Wx (.call f mes)) := by
  obtain ⟨a, ⟨fd, ps, F, hb⟩, hm, hk⟩ := hs.fn f hf
  cases es with
  | nil =>
    cases h0 rfl
    refine (callE0 F room hg hm hk hb (passAt tk) hdb).weak fun σ H Q ⟨δ, ρ, L, S, lo, so, g⟩ => ?_
    unfold ev evs at g
    exact ⟨δ, ρ, S, [], .nil, so, g⟩
  | cons e es =>
    refine (callE F room hg hm hk hb (passAt tk) ha hn hdb).weak fun σ H Q ⟨δ, ρ, L, S, lo, so, g⟩ => ?_
    unfold ev at g
    exact ⟨δ, ρ, L, S, lo, so, g.step fun ws S1 ρ1 H1 us g1 so1 r1 g => ⟨δ, ρ1, S1, ws, r1, so1, g⟩⟩
theorem obj_at {ρ : List Addr} {H : Hp} {S : Sto} {δ : List Addr} {m : Str} {w : W} {v : V} {c : Str} (so : StoOk (G.dl δ) ρ H S) (r : RlW (G.dl δ) ρ H w v) (e : clsOf S m w = some c) :
    ∃ a Ca dx fvs, v = .ref a ∧ G.ob c = some Ca ∧ H a = some (.ins Ca dx fvs) ∧ fvs.lookup m = none := by
  cases w with
  | p x => cases e
  | scr l => cases e
  | ref k =>
    obtain ⟨a, ea, rfl⟩ := r
    have e' : (match S[k]? with
      | some (.ins c fs) => if (fs.lookup m).isNone then some c else none
      | _ => none) = some c := e
    cases z : S[k]? with
    | none => rw [z] at e'; cases e'
    | some o =>
      rw [z] at e'
      cases o with
      | lst l => cases e'
      | ins c' fs =>
        obtain ⟨hz, rfl⟩ := ite_some (show (if (fs.lookup m).isNone = true then some c' else none) = some c from e')
        obtain ⟨Ca, dx, fvs, h1, h2, h3⟩ := so.ob k _ a z ea
        refine ⟨a, Ca, dx, fvs, rfl, h1, h2, ?_⟩
        have : ∀ {ws : List (Str × W)} {vs : List (Str × V)}, RlF (G.dl δ) ρ H ws vs → (ws.lookup m).isNone = true → vs.lookup m = none := fun {ws vs} r => by
          induction r with
          | nil => intro _; rfl
          | @cons x w v ws vs h r ih =>
            intro q
            rw [List.lookup_cons] at q ⊢
            cases hx : m == x with
            | true => simp only [hx] at q; cases q
            | false => simp only [hx] at q ⊢; exact ih q
        exact this h3 hz
theorem se_mth {o : Expr} {mo : ME} {m : Str} {apos : Pos} (hK : X.K = G.K) (hs : Has X G C n T) (room : RoomE (n + 1) X.A) (tk : Takes X Wx) (ho : PE X o (tEv G C Wx mo)) (ha : PA X es (tEs G C Wx mes)) (hn : es.all nst = true) (pl : Plainly X o m apos pos es)
    (h0 : es = [] → mes = .nil) : PE X (.Call (.Attribute o m apos) es [] pos) (tEv G C Wx (.mth mo m mes)) := by
  have core : ∀ {σ : L2.St} {H1 : Hp} {Q : VK} {δ ρ1 : List Addr} {L : Loc} {S1 : Sto} {w : W} {u : V} {t : TA}, StoOk (G.dl δ) ρ1 H1 S1 → RlW (G.dl δ) ρ1 H1 w u →
      Gv (G.dl δ) ρ1 H1 Wx σ (RlW (G.dl δ)) (match clsOf S1 m w with
        | some c => if C.hasM c m = true then (evs C mes L S1).bind fun ws S => C.met c m (w :: ws) S else .bad
        | none => .bad) Q →
      (∀ c, Gv (G.dl δ) ρ1 H1 Wx σ (RlW (G.dl δ)) ((evs C mes L S1).bind fun ws S => C.met c m (w :: ws) S) Q → t σ H1 fun vs H2 => spF G (C.met c m) (u :: vs) H2 Q (WE Wx σ)) →
      ∃ a Ca dx fs g fd ps sp, u = V.ref a ∧ H1 a = some (.ins Ca dx fs) ∧ fs.lookup m = none ∧ Cls X.K Ca ∧ Meth X.K Ca m g ∧
        FnE X.prog X.w X.K X.mg X.base (n + 1) g fd ps sp ∧ Binds X.K fd ps [] ∧ t σ H1 fun vs H2 => sp (V.ref a :: vs) H2 Q (WE Wx σ) := by
    intro σ H1 Q δ ρ1 L S1 w u t so1 r1 g k
    cases e : clsOf S1 m w with
    | none => rw [e] at g; exact g.elim
    | some c =>
      rw [e] at g
      obtain ⟨a, Ca, dx, fvs, rfl, h1, h2, h3⟩ := obj_at so1 r1 e
      dsimp only at g
      split at g
      · rename_i hm
        obtain ⟨Ca', g', e1, me, fd, ps, F, hb⟩ := hs.met c m (hs.hasM c m hm)
        rw [h1] at e1
        cases e1
        exact ⟨a, Ca, dx, fvs, g', fd, ps, _, rfl, h2, h3, hs.obj c Ca h1, me, F, hb, k c g⟩
      · exact g.elim
  cases es with
  | nil =>
    cases h0 rfl
    refine (methE0 room (passAt tk) ho pl).weak fun σ H Q ⟨δ, ρ, L, S, lo, so, g⟩ => ?_
    unfold ev at g
    refine ⟨δ, ρ, L, S, lo, so, g.step fun w S1 ρ1 H1 u g1 so1 r1 g => core so1 r1 g fun c g => ?_⟩
    unfold evs at g
    exact ⟨δ, ρ1, S1, [w], .cons r1 .nil, so1, g⟩
  | cons e es =>
    refine (methE room (passAt tk) ho ha hn pl).weak fun σ H Q ⟨δ, ρ, L, S, lo, so, g⟩ => ?_
    unfold ev at g
    refine ⟨δ, ρ, L, S, lo, so, g.step fun w S1 ρ1 H1 u g1 so1 r1 g => core so1 r1 g fun c g => ?_⟩
    exact ⟨δ, ρ1, L, S1, lo.go g1, so1, g.step fun ws S2 ρ2 H2 us g2 so2 r2 g => ⟨δ, ρ2, S2, w :: ws, .cons (r1.go g2) r2, so2, g⟩⟩
end
end MP

set_option Elab.async false
set_option linter.all false
set_option maxRecDepth 100000
set_option autoImplicit false
/-! MP7: attributes, new objects, texts joined; what is walked; targets; comprehensions. -/
namespace MP
open PySem PySem.Spec PyProof.Rows L2 C8

/-! ### stores that grow -/
section
variable {G : Gd} {ρ ρ' : List Addr} {H H' : Hp}
theorem ban_push {δ : List Addr} {a : Addr} (G : Gd) (ρ : List Addr) : ∀ x, x ∈ (G.dl δ).ban (ρ ++ [a]) ↔ x = a ∨ x ∈ (G.dl δ).ban ρ := fun x => by
  show x ∈ (ρ ++ [a]) ++ δ ↔ x = a ∨ x ∈ ρ ++ δ
  simp only [List.mem_append, List.mem_singleton]
  constructor
  · rintro ((h | h) | h)
    · exact .inr (.inl h)
    · exact .inl h
    · exact .inr (.inr h)
  · rintro (h | h | h)
    · exact .inl (.inr h)
    · exact .inl (.inl h)
    · exact .inr h
theorem gro_push {H H' : Hp} {a : Addr} (k : Kp H H') (ha : H a = none) (ρ : List Addr) : Gro ρ H (ρ ++ [a]) H' :=
  ⟨k.ext _, fun x m => by
    rcases List.mem_append.mp m with q | q
    · exact .inl q
    · rw [List.mem_singleton.mp q]; exact .inr ha, [a], rfl⟩
theorem StoOk.gro {S : Sto} {i : Nat} (so : StoOk G ρ H S) (g : Gro ρ H ρ' H') {o : Ob} {a : Addr} (kp : H' a = H a) (h : ObR G ρ H a o) : ObR G ρ' H' a o := by
  cases o with
  | lst l => obtain ⟨vs, e, r⟩ := h; exact ⟨vs, kp.trans e, Rls.go (g.g G) _ _ r⟩
  | ins c fs => obtain ⟨C, dx, fv, c1, e, r⟩ := h; exact ⟨C, dx, fv, c1, kp.trans e, r.go g⟩
theorem StoOk.push {S : Sto} {a : Addr} {o : Ob} (so : StoOk G ρ H S) (k : Kp H H') (ha : H a = none) (h : ObR G (ρ ++ [a]) H' a o) : StoOk G (ρ ++ [a]) H' (S ++ [o]) := by
  have g := gro_push k ha ρ
  have na : a ∉ G.ban ρ := fun m => so.there a m ha
  refine ⟨by rw [List.length_append, List.length_append, so.len]; rfl, ?_, fun i o' b e1 e2 => ?_, fun b m => (k.ext []).there _ (so.dl b m)⟩
  · have p : ((ρ ++ [a]) ++ G.δ).Perm (a :: (ρ ++ G.δ)) := by
      rw [List.append_assoc]
      exact List.perm_middle
    exact p.nodup_iff.mpr (List.nodup_cons.mpr ⟨na, so.nd⟩)
  · rcases Nat.lt_or_ge i S.length with q | q
    · rw [List.getElem?_append_left q] at e1
      rw [List.getElem?_append_left (by rw [← so.len]; exact q)] at e2
      have hb : H b ≠ none := so.there b (List.mem_append_left _ (List.mem_of_getElem? e2))
      refine so.gro (i := i) g ?_ (so.ob i o' b e1 e2)
      cases z : H b with
      | none => exact absurd z hb
      | some u => exact k b u z
    · rw [List.getElem?_append_right q] at e1
      rw [List.getElem?_append_right (by rw [← so.len]; exact q), ← so.len] at e2
      cases z : i - S.length with
      | succ j => rw [z] at e1; simp at e1
      | zero =>
        rw [z] at e1 e2
        simp at e1 e2
        subst e1 e2
        exact h
end

section
variable {X : Cx} {G : Gd} {C : Cl} {Wx : WX} {a b c : Expr} {ma mb mc : ME} {pos : Pos} {es : List Expr} {mes : MEs} {n : Nat} {T : Tb}
theorem RlF.get {ρ : List Addr} {H : Hp} {f : Str} : ∀ {ws : List (Str × W)} {vs : List (Str × V)} {w : W}, RlF G ρ H ws vs → ws.lookup f = some w → ∃ v, vs.lookup f = some v ∧ RlW G ρ H w v
  | _, _, _, .nil, e => by cases e
  | _, _, w, .cons (x := x) h r, e => by
    rw [List.lookup_cons] at e ⊢
    cases hx : f == x with
    | true => rw [hx] at e; cases e; exact ⟨_, rfl, h⟩
    | false => rw [hx] at e; exact RlF.get r e
theorem att_at {ρ : List Addr} {H : Hp} {S : Sto} {δ : List Addr} {f : Str} {w w' : W} {v : V} (so : StoOk (G.dl δ) ρ H S) (r : RlW (G.dl δ) ρ H w v) (e : attOf S f w = some w') :
    ∃ a c Ca dx fvs v', v = .ref a ∧ G.ob c = some Ca ∧ H a = some (.ins Ca dx fvs) ∧ fvs.lookup f = some v' ∧ RlW (G.dl δ) ρ H w' v' ∧ clsAt S w = some c := by
  cases w with
  | p x => cases e
  | scr l => cases e
  | ref k =>
    obtain ⟨a, ea, rfl⟩ := r
    have e' : (match S[k]? with
      | some (.ins _ fs) => fs.lookup f
      | _ => none) = some w' := e
    cases z : S[k]? with
    | none => rw [z] at e'; cases e'
    | some o =>
      rw [z] at e'
      cases o with
      | lst l => cases e'
      | ins c fs =>
        obtain ⟨Ca, dx, fvs, h1, h2, h3⟩ := so.ob k _ a z ea
        obtain ⟨v', e1, e2⟩ := h3.get e'
        exact ⟨a, c, Ca, dx, fvs, v', rfl, h1, h2, e1, e2, by
          show (match S[k]? with
            | some (.ins c _) => some c
            | _ => none) = some c
          rw [z]⟩
/-- the objects' attributes: no class has them -/
def Fields (X : Cx) (G : Gd) (f : Str) : Prop := ∀ c Ca, G.ob c = some Ca → NoAttr X.K Ca f
theorem se_att {f : Str} (hs : Has X G C n T) (hf : Fields X G f) (ha : PE X a (tEv G C Wx ma)) (hb : attributeBase a f X.env (eval a X.env) = eval a X.env) : PE X (.Attribute a f pos) (tEv G C Wx (.att ma f)) :=
  (pe_fld ha hb).weak fun σ H Q ⟨δ, ρ, L, S, lo, so, g⟩ => by
    unfold ev at g
    refine ⟨δ, ρ, L, S, lo, so, g.step fun w S1 ρ1 H1 u g1 so1 r1 g => ?_⟩
    obtain ⟨w', e, g⟩ := g.ofO
    obtain ⟨a, c, Ca, dx, fvs, v', rfl, h1, h2, h3, h4, _⟩ := att_at so1 r1 e
    exact ⟨a, Ca, dx, fvs, v', rfl, h2, hs.obj c Ca h1, hf c Ca h1, h3, g.at_ so1 h4⟩
theorem se_mk {c : Str} {p : Pos} (hs : Has X G C n T) (room : RoomE (n + 1) X.A) (tk : Takes X Wx) (hg : Gl X c) (hc : (T.met c "__init__").isSome = true) (ha : PA X (a :: es) (tEs G C Wx mes)) (hn : (a :: es).all nst = true) (hdb : (c == ("__debug__" : Str)) = false) :
    PE X (.Call (.Name c p) (a :: es) [] pos) (tEv G C Wx (.mk c mes)) := by
  obtain ⟨Ca, g, e1, hm, M, fd, ps, F, hb⟩ := hs.ini c hc
  refine (makeE M F room hg hm hb (passAt tk) ha hn hdb).weak fun σ H Q ⟨δ, ρ, L, S, lo, so, g⟩ => ?_
  unfold ev at g
  refine ⟨δ, ρ, L, S, lo, so, g.step fun ws S1 ρ1 H1 us g1 so1 r1 g => fun a dx ha hdx ne => ?_⟩
  have hk : Kp H1 (upd (upd H1 dx (.own a)) a (.ins Ca dx [])) := (Kp.laid _ hdx).trans (Kp.laid _ (by rw [upd_ne (Ne.symm ne)]; exact ha))
  have gr := gro_push hk ha ρ1
  refine ⟨δ, ρ1 ++ [a], S1 ++ [.ins c []], .ref S1.length :: ws, .cons ⟨a, ?_, rfl⟩ (r1.go gr), so1.push hk ha (show ObR (G.dl δ) _ _ a (.ins c []) from ⟨Ca, dx, [], e1, upd_same, .nil⟩), ?_⟩
  · rw [so1.len, List.getElem?_append_right (Nat.le_refl _), Nat.sub_self]; rfl
  · refine (g.grow gr).step fun w S2 ρ2 H2 u g2 so2 r2 g => ?_
    split at g
    · cases r2
      refine ⟨rfl, g.at_ so2 ⟨a, ?_, rfl⟩⟩
      obtain ⟨m, rfl⟩ := g2.at_
      rw [List.append_assoc, so1.len, List.getElem?_append_right (Nat.le_refl _), Nat.sub_self]; rfl
    · exact g.elim
theorem Rls.strs {K : PySem.W.Frag} {ρ : List Addr} {H : Hp} : ∀ {l : List P} {vs : List V} {ns : List Str}, Rls K ρ H l vs → P.strs? l = some ns → vs = ns.map V.str ∧ ∀ x ∈ ns, PyData.strOk x = true
  | _, _, _, .nil, e => by cases e; exact ⟨rfl, by simp⟩
  | _, _, ns, .cons (p := p) (l := l) h r, e => by
    cases p with
    | str i =>
      cases h with
      | str _ ok =>
        obtain ⟨ms, q, rfl⟩ := Option.map_eq_some_iff.mp (show (P.strs? l).map (i :: ·) = some ns from e)
        obtain ⟨e1, e2⟩ := Rls.strs r q
        exact ⟨by rw [e1]; rfl, fun x m => (List.mem_cons.mp m).elim (fun z => z ▸ ok) (e2 x)⟩
    | _ => cases e
theorem strOk_join {x : Str} (hx : PyData.strOk x = true) : ∀ {ys : List Str}, (∀ y ∈ ys, PyData.strOk y = true) → PyData.strOk (Str.join x ys) = true
  | [], _ => by unfold Str.join; decide +kernel
  | [p], h => h p (by simp)
  | p :: q :: r, h => show PyData.strOk (p ++ x ++ Str.join x (q :: r)) = true from
    strOk_app (strOk_app (h p (by simp)) hx) (strOk_join hx fun y m => h y (List.mem_cons_of_mem _ m))
theorem se_join (hK : X.K = G.K) {x : Str} {j : Nat} {p apos : Pos} (hx : PyData.strOk x = true) (ha : PE X a (tEv G C Wx ma)) (hn : nst a = true) (hline : (apos.endLine == pos.line) = true) :
    PE X (.Call (.Attribute (.Constant (.str x) j p) "join" apos) [a] [] pos) (tEv G C Wx (.join x ma)) :=
  (pe_join pe_str ha (star_cons hn) rfl hline).weak fun σ H Q ⟨δ, ρ, L, S, lo, so, g⟩ => by
    unfold ev at g
    refine ⟨⟨x, rfl⟩, δ, ρ, L, S, lo, so, g.step fun w S1 ρ1 H1 u g1 so1 r1 g => ?_⟩
    obtain ⟨w', e, g⟩ := g.ofO
    obtain ⟨p, e1, e⟩ := Option.bind_eq_some_iff.mp e
    obtain ⟨r, e2, rfl⟩ := Option.map_eq_some_iff.mp e
    cases p with
    | lst l =>
      obtain ⟨ys, e3, e4⟩ := Option.bind_eq_some_iff.mp (show ((P.strs? l).bind fun ys => if (ys.map (·.length)).sum + ys.length * x.length ≤ 16777216 then some (P.str (Str.join x ys)) else none) = some r from e2)
      obtain ⟨hz, rfl⟩ := ite_some e4
      obtain ⟨q, vs, rfl, h1, rl⟩ := (r1.rr so1 e1).lst
      obtain ⟨rfl, ok⟩ := rl.strs e3
      exact ⟨x, q, ys, rfl, rfl, .inl (SqL.of h1), hz, by rw [TL.join_eq]; exact (Gives.of so1 g).str (strOk_join hx ok)⟩
    | _ => cases e2
/-! ### what is walked -/
theorem walk_l {G : Gd} {ρ : List Addr} {H : Hp} {a : Addr} {l : List P} {vs : List V} (na : a ∉ G.ban ρ) (h : H a = some (.lst vs)) (r : Rls G.K (G.ban ρ) H l vs) : Walks G ρ H l (Itl G.K a) := fun i β H' g => by
  have h' : SqL G.K H' a vs := SqL.of (g.ext.keep _ _ na h)
  have r' := Rls.go g _ _ r
  refine ⟨fun q => ⟨vs, h', by rw [← r'.length]; exact q⟩, fun p e => ?_⟩
  obtain ⟨v, e1, e2⟩ := r'.get e
  exact ⟨⟨vs, v, h', e1⟩, fun x H'' ⟨eH, y⟩ => by
    subst eH
    have := y vs h'
    rw [e1] at this
    cases this
    exact ⟨.refl _, e2⟩⟩
theorem walk_t {G : Gd} {ρ : List Addr} {H : Hp} {a : Addr} {l : List P} {vs : List V} (h : SqT G.K H a vs) (r : Rls G.K (G.ban ρ) H l vs) : Walks G ρ H l (Itt G.K a) := fun i β H' g => by
  have h' : SqT G.K H' a vs := SqT.go g.ext h
  have r' := Rls.go g _ _ r
  refine ⟨fun q => ⟨vs, h', by rw [← r'.length]; exact q⟩, fun p e => ?_⟩
  obtain ⟨v, e1, e2⟩ := r'.get e
  exact ⟨⟨vs, v, h', e1⟩, fun x H'' ⟨eH, y⟩ => by
    subst eH
    have := y vs h'
    rw [e1] at this
    cases this
    exact ⟨.refl _, e2⟩⟩
theorem walk_s {G : Gd} {ρ : List Addr} {H : Hp} {z : Str} (ok : PyData.strOk z = true) : Walks G ρ H (chars z) (Its z) := fun i β H' g => by
  have len : (chars z).length = z.cps.size := by simp [chars]
  refine ⟨fun q => by rw [len] at q; exact q, fun p e => ?_⟩
  have hi : i < z.cps.size := by
    rcases Nat.lt_or_ge i z.cps.size with q | q
    · exact q
    · rw [List.getElem?_eq_none (by rw [len]; exact q)] at e; cases e
  refine ⟨hi, fun x H'' ⟨eH, c, ec, ex⟩ => ?_⟩
  subst eH ex
  refine ⟨.refl _, ?_⟩
  have e' : (chars z)[i]? = some (P.str ⟨#[c]⟩) := by
    unfold chars
    rw [List.getElem?_map, Array.getElem?_toList, ec]; rfl
  rw [e'] at e
  cases e
  refine .str _ ?_
  have h' : decide (c < 0x110000) = true := Array.all_eq_true'.mp ok c (Array.mem_of_getElem? ec)
  show (#[c] : Array Nat).all _ = true
  simpa using h'
theorem walk_r {G : Gd} {ρ : List Addr} {H : Hp} (lo : Int) (n : Nat) : Walks G ρ H (rangeP lo n) (Itr lo n) := fun i β H' g => by
  have len : (rangeP lo n).length = n := by simp [rangeP]
  refine ⟨fun q => by rw [len] at q; exact q, fun p e => ?_⟩
  have hi : i < n := by
    rcases Nat.lt_or_ge i n with q | q
    · exact q
    · rw [List.getElem?_eq_none (by rw [len]; exact q)] at e; cases e
  refine ⟨hi, fun x H'' ⟨eH, ex⟩ => ?_⟩
  subst eH ex
  unfold rangeP at e
  rw [List.getElem?_map, List.getElem?_range hi] at e
  cases e
  exact ⟨.refl _, .int _⟩
theorem si_ex (hK : X.K = G.K) {tg : Expr} (ha : PE X a (tEv G C Wx ma)) : PI X tg a (tEi G C Wx (.ex ma)) := by
  refine ⟨fun pins s σ H R I ⟨δ, ρ, L, S, lo, so, g⟩ => ?_⟩
  unfold evI at g
  have none_ : ∀ {w : W} {S1 : Sto}, ev C ma L S = .ok w S1 → (∀ p l, w = .p p → walk p ≠ some l) → False := fun {w S1} e h => by
    rw [e] at g
    cases w with
    | p p =>
      cases z : walk p with
      | none => simp only [Res.bind, z] at g; exact g
      | some l => exact h p l rfl z
    | ref _ => exact g
    | scr _ => exact g
  cases e : ev C ma L S with
  | bad => rw [e] at g; exact g.elim
  | ex ee S1 =>
    rw [e] at g
    exact (pi_list ha).run pins s σ H R I ⟨δ, ρ, L, S, lo, so, by rw [e]; exact g⟩
  | ok w S1 =>
    have wk : ∀ {p : P} {l : List P}, w = .p p → walk p = some l → Gv (G.dl δ) ρ H Wx σ (Walks (G.dl δ)) (.ok l S1) R := fun {p l} ew z => by
      rw [e, ew] at g
      simp only [Res.bind, z] at g
      exact g
    cases w with
    | ref _ => exact (none_ e fun p l z => nomatch z).elim
    | scr _ => exact (none_ e fun p l z => nomatch z).elim
    | p p =>
      cases p with
      | lst l =>
        refine (pi_list ha).run pins s σ H R I ⟨δ, ρ, L, S, lo, so, ?_⟩
        rw [e]
        intro ρ1 H1 u g1 so1 r1
        cases r1 with
        | lst na h r => exact ⟨_, rfl, ⟨_, SqL.of h⟩, hK ▸ wk rfl rfl ρ1 H1 _ g1 so1 (walk_l na h r)⟩
      | tup l =>
        refine (pi_tup ha).run pins s σ H R I ⟨δ, ρ, L, S, lo, so, ?_⟩
        rw [e]
        intro ρ1 H1 u g1 so1 r1
        cases r1 with
        | tup h r => exact ⟨_, rfl, ⟨_, hK ▸ h⟩, hK ▸ wk rfl rfl ρ1 H1 _ g1 so1 (walk_t h r)⟩
      | str z =>
        refine (pi_str ha).run pins s σ H R I ⟨δ, ρ, L, S, lo, so, ?_⟩
        rw [e]
        intro ρ1 H1 u g1 so1 r1
        cases r1 with
        | str _ ok => exact ⟨z, rfl, wk rfl rfl ρ1 H1 _ g1 so1 (walk_s ok)⟩
      | non => exact (none_ e fun p l z q => by cases z; cases q).elim
      | bl _ => exact (none_ e fun p l z q => by cases z; cases q).elim
      | int _ => exact (none_ e fun p l z q => by cases z; cases q).elim
theorem si_r1 {tg : Expr} {p : Pos} (hg : Gl X "range") (hm : X.mg "range" = none) (ha : PE X a (tEv G C Wx ma)) (hn : nst a = true) : PI X tg (.Call (.Name "range" p) [a] [] pos) (tEi G C Wx (.r1 ma)) := by
  refine ⟨fun pins s σ H R I ⟨δ, ρ, L, S, lo, so, g⟩ => (pi_range1 hg hm (pa_cons ha pa_nil (star_cons hn)) (star_cons hn)).run pins s σ H R I ⟨δ, ρ, L, S, lo, so, ?_⟩⟩
  unfold evI at g
  refine g.step fun w S1 ρ1 H1 u g1 so1 r1 g => ?_
  obtain ⟨l, e, g⟩ := g.ofO
  obtain ⟨p, e1, e⟩ := Option.bind_eq_some_iff.mp e
  cases p with
  | int j =>
    obtain ⟨hz, rfl⟩ := ite_some (show (if inR j = true then some (rangeP 0 j.toNat) else none) = some l from e)
    obtain ⟨h1, h2⟩ := Bool.and_eq_true_iff.mp hz
    exact ⟨j, by rw [(r1.rr so1 e1).int], of_decide_eq_true h1, of_decide_eq_true h2, g.at_ so1 (walk_r _ _)⟩
  | _ => cases e
theorem si_r2 {tg : Expr} {p : Pos} (hg : Gl X "range") (hm : X.mg "range" = none) (ha : PE X a (tEv G C Wx ma)) (hb : PE X b (tEv G C Wx mb)) (hn : nst a = true) (hn' : nst b = true) : PI X tg (.Call (.Name "range" p) [a, b] [] pos) (tEi G C Wx (.r2 ma mb)) := by
  refine ⟨fun pins s σ H R I ⟨δ, ρ, L, S, lo, so, g⟩ => (pi_range2 hg hm (pa_cons ha (pa_cons hb pa_nil (star_cons hn')) (star_cons hn)) ((star_cons hn).trans (by rw [star_cons hn']; rfl)) (star_cons hn')).run pins s σ H R I ⟨δ, ρ, L, S, lo, so, ?_⟩⟩
  unfold evI at g
  refine g.step fun w S1 ρ1 H1 u g1 so1 r1 g => ⟨δ, ρ1, L, S1, lo.go g1, so1, g.step fun w2 S2 ρ2 H2 u2 g2 so2 r2 g => ?_⟩
  obtain ⟨l, e, g⟩ := g.ofO
  obtain ⟨p, e1, e⟩ := Option.bind_eq_some_iff.mp e
  obtain ⟨q, e2, e⟩ := Option.bind_eq_some_iff.mp e
  cases p with
  | int i =>
    cases q with
    | int j =>
      obtain ⟨hz, rfl⟩ := ite_some (show (if (inR i && inR j) = true then some (rangeP i (j - i).toNat) else none) = some l from e)
      obtain ⟨h1, h2⟩ := Bool.and_eq_true_iff.mp hz
      obtain ⟨h1, h3⟩ := Bool.and_eq_true_iff.mp h1
      obtain ⟨h2, h4⟩ := Bool.and_eq_true_iff.mp h2
      exact ⟨i, j, by rw [((r1.go g2).rr so2 e1).int, (r2.rr so2 e2).int], ⟨of_decide_eq_true h1, of_decide_eq_true h3, of_decide_eq_true h2, of_decide_eq_true h4⟩, g.at_ so2 (walk_r _ _)⟩
    | _ => cases e
  | _ => cases e
end
end MP

set_option Elab.async false
set_option linter.all false
set_option maxRecDepth 100000
set_option autoImplicit false
/-! MP8: targets; comprehensions. -/
namespace MP
open PySem PySem.Spec PyProof.Rows L2 C8

def gNs : List Nat → L2.TGs
  | [] => gNil
  | i :: r => gCons (gName i) (gNs r)
def gOf (K : PySem.W.Frag) : MG → L2.TG
  | .name i => gName i
  | .names is => gTup K is.length (gNs is)
def MG.slots : MG → List Nat
  | .name i => [i]
  | .names is => is
/-- σ2 is σ but for the slots vs -/
def OnlyAt (vs : List Nat) (σ σ2 : L2.St) : Prop := σ2.length = σ.length ∧ ∀ j, j ∉ vs → σ2[j]? = σ[j]?
theorem getElem?_wipe (σ : L2.St) (j : Nat) : ∀ vs : List Nat, (L2.wipe σ vs)[j]? = if j ∈ vs then (σ[j]?).map fun _ => none else σ[j]?
  | [] => by simp [L2.wipe]
  | v :: vs => by
    unfold L2.wipe
    rw [List.getElem?_set, getElem?_wipe σ j vs, L2.wipe_length]
    by_cases h : v = j
    · subst h
      rw [if_pos rfl]
      by_cases hl : v < σ.length
      · simp [hl]
      · simp [hl]
    · rw [if_neg h]
      have : (j ∈ v :: vs) ↔ j ∈ vs := by simp [Ne.symm h]
      by_cases hj : j ∈ vs
      · rw [if_pos hj, if_pos (this.mpr hj)]
      · rw [if_neg hj, if_neg (fun z => hj (this.mp z))]
theorem wipe_same {vs is : List Nat} {σ σ2 : L2.St} (h : OnlyAt is (L2.wipe σ vs) σ2) (hs : ∀ i ∈ is, i ∈ vs) : L2.wipe σ2 vs = L2.wipe σ vs := by
  refine List.ext_getElem? fun j => ?_
  rw [getElem?_wipe]
  by_cases hj : j ∈ vs
  · rw [if_pos hj, getElem?_wipe, if_pos hj]
    have hl : σ2.length = σ.length := by rw [h.1, L2.wipe_length]
    rcases Nat.lt_or_ge j σ.length with q | q
    · simp [q, hl]
    · simp [q, hl]
  · rw [if_neg hj]
    exact h.2 j fun z => hj (hs j z)
theorem loc_wipe (L : Loc) : ∀ (vs : List Nat), (wipe L vs).length = L.length ∧ ∀ i w, (wipe L vs)[i]? = some (some w) → i ∉ vs ∧ L[i]? = some (some w)
  | [] => ⟨rfl, fun i w h => ⟨by simp, h⟩⟩
  | v :: vs => by
    obtain ⟨h1, h2⟩ := loc_wipe L vs
    refine ⟨by unfold wipe; rw [List.length_set, h1], fun i w h => ?_⟩
    unfold wipe at h
    rw [List.getElem?_set] at h
    by_cases hv : v = i
    · rw [if_pos hv] at h
      split at h <;> cases h
    · rw [if_neg hv] at h
      obtain ⟨a, b⟩ := h2 i w h
      exact ⟨by simp only [List.mem_cons, not_or]; exact ⟨fun e => hv e.symm, a⟩, b⟩
section
variable {G : Gd} {ρ ρ' : List Addr} {H H' : Hp}
theorem LocOk.set {L : Loc} {σ : L2.St} {w : W} {v : V} (lo : LocOk G ρ H L σ) (r : RlW G ρ H w v) (i : Nat) : LocOk G ρ H (L.set i (some w)) (σ.set i (some v)) := by
  refine ⟨by rw [List.length_set, List.length_set, lo.len], fun j w' h => ?_⟩
  rw [List.getElem?_set] at h
  rw [List.getElem?_set]
  by_cases hi : i = j
  · rw [if_pos hi] at h ⊢
    split at h
    · rename_i hl
      cases h
      rw [if_pos (by rw [← lo.len]; exact hl)]
      exact ⟨v, rfl, r⟩
    · cases h
  · rw [if_neg hi] at h ⊢
    exact lo.at_ j w' h
theorem LocOk.wipe {L : Loc} {σ : L2.St} (lo : LocOk G ρ H L σ) (vs : List Nat) : LocOk G ρ H (MP.wipe L vs) (L2.wipe σ vs) := by
  obtain ⟨h1, h2⟩ := loc_wipe L vs
  refine ⟨by rw [h1, L2.wipe_length, lo.len], fun i w h => ?_⟩
  obtain ⟨a, b⟩ := h2 i w h
  obtain ⟨v, e, r⟩ := lo.at_ i w b
  exact ⟨v, by rw [getElem?_wipe, if_neg a]; exact e, r⟩
theorem onlyAt_set {σ : L2.St} {i : Nat} {v : Option V} : OnlyAt [i] σ (σ.set i v) := ⟨List.length_set, fun j h => List.getElem?_set_ne (by simpa using Ne.symm (fun e => h (by simp [e])))⟩
theorem setAll_ok : ∀ {is : List Nat} {xs : List P} {vs : List V} {L M2 : Loc} {σ : L2.St} {Q : L2.St → Hp → Prop}, setAll L is xs = some M2 → LocOk G ρ H L σ → Rls G.K (G.ban ρ) H xs vs →
    (∀ σ2, LocOk G ρ H M2 σ2 → OnlyAt is σ σ2 → Q σ2 H) → gNs is vs σ H Q
  | [], [], _, L, M2, σ, Q, e, lo, .nil, k => by
    cases e
    exact ⟨rfl, k σ lo ⟨rfl, fun _ _ => rfl⟩⟩
  | i :: is, x :: xs, _, L, M2, σ, Q, e, lo, .cons (v := v) (vs := vs) h r, k => by
    refine ⟨v, vs, rfl, setAll_ok (L := L.set i (some (.p x))) e (lo.set (w := .p x) h i) r fun σ2 lo2 oa => k σ2 lo2 ⟨?_, fun j hj => ?_⟩⟩
    · rw [oa.1, List.length_set]
    · rw [oa.2 j fun m => hj (List.mem_cons_of_mem _ m), List.getElem?_set_ne fun e => hj (by rw [e]; exact List.mem_cons_self)]
  | [], _ :: _, _, _, _, _, _, e, _, _, _ => by cases e
  | _ :: _, [], _, _, _, _, _, e, _, _, _ => by cases e
theorem setAll_len : ∀ {is : List Nat} {xs : List P} {L M2 : Loc}, setAll L is xs = some M2 → is.length = xs.length
  | [], [], _, _, _ => rfl
  | _ :: _, _ :: _, _, _, e => congrArg (· + 1) (setAll_len (show setAll _ _ _ = some _ from e))
  | [], _ :: _, _, _, e => by cases e
  | _ :: _, [], _, _, e => by cases e
theorem bindT_ok {tg : MG} {p : P} {v : V} {L M2 : Loc} {σ : L2.St} {Q : L2.St → Hp → Prop} (e : bindT L tg p = some M2) (lo : LocOk G ρ H L σ) (r : Rl G.K (G.ban ρ) H p v)
    (k : ∀ σ2, LocOk G ρ H M2 σ2 → OnlyAt tg.slots σ σ2 → Q σ2 H) : gOf G.K tg v σ H Q := by
  cases tg with
  | name i =>
    cases e
    exact k _ (lo.set (w := .p p) r i) onlyAt_set
  | names is =>
    cases p with
    | tup l =>
      have e' : setAll L is l = some M2 := e
      cases r with
      | tup h r => exact ⟨_, _, rfl, h, by rw [← r.length, setAll_len e'], setAll_ok e' lo r k⟩
    | _ => cases e
end
section
variable {G : Gd} {δ ρ ρ' : List Addr} {H H' : Hp} {D : Addr}
theorem ban_cons (G : Gd) (δ ρ : List Addr) (D : Addr) : ∀ x, x ∈ (G.dl (D :: δ)).ban ρ ↔ x = D ∨ x ∈ (G.dl δ).ban ρ := fun x => by
  show x ∈ ρ ++ D :: δ ↔ x = D ∨ x ∈ ρ ++ δ
  simp only [List.mem_append, List.mem_cons]
  constructor
  · rintro (h | h | h)
    · exact .inr (.inl h)
    · exact .inl h
    · exact .inr (.inr h)
  · rintro (h | h | h)
    · exact .inr (.inl h)
    · exact .inl h
    · exact .inr (.inr h)
/-- a list that is being made: D joins those -/
theorem grow_in (g : Gro ρ H ρ' H') (hD : H D = none) : Grow ((G.dl δ).ban ρ) H ((G.dl (D :: δ)).ban ρ') H' := by
  have q := g.g (G.dl δ)
  exact ⟨q.ext, fun a m => ((ban_cons G δ ρ' D a).mp m).elim (fun e => .inr (e ▸ hD)) (q.new a)⟩
theorem RlW.more {w : W} {v : V} (g : Grow ((G.dl δ).ban ρ) H ((G.dl (D :: δ)).ban ρ') H') (at_ : ∃ n, ρ' = ρ ++ n) (ef : Ext ρ H H') (r : RlW (G.dl δ) ρ H w v) : RlW (G.dl (D :: δ)) ρ' H' w v := by
  cases w with
  | p x => exact Rl.go g _ _ r
  | ref n =>
    obtain ⟨m, rfl⟩ := at_
    obtain ⟨a, h, e⟩ := r
    refine ⟨a, ?_, e⟩
    rw [List.getElem?_append_left (by
      rcases Nat.lt_or_ge n ρ.length with q | q
      · exact q
      · rw [List.getElem?_eq_none q] at h; cases h)]
    exact h
  | scr l =>
    obtain ⟨a, vs, e, h, r⟩ := r
    exact ⟨a, vs, e, h.go ef, Rls.go g _ _ r⟩
theorem RlW.back {w : W} {v : V} (r : RlW (G.dl (D :: δ)) ρ H w v) : RlW (G.dl δ) ρ H w v := by
  have sub : ∀ a ∈ (G.dl δ).ban ρ, a ∈ (G.dl (D :: δ)).ban ρ := fun a m => (ban_cons G δ ρ D a).mpr (.inr m)
  cases w with
  | p x => exact Rl.less sub _ _ r
  | ref n => exact r
  | scr l => obtain ⟨a, vs, e, h, r⟩ := r; exact ⟨a, vs, e, h, Rls.less sub _ _ r⟩
theorem RlF.back {ws : List (Str × W)} {vs : List (Str × V)} (r : RlF (G.dl (D :: δ)) ρ H ws vs) : RlF (G.dl δ) ρ H ws vs := by
  induction r with
  | nil => exact .nil
  | cons h r ih => exact .cons h.back ih
theorem RlF.more {ws : List (Str × W)} {vs : List (Str × V)} (g : Grow ((G.dl δ).ban ρ) H ((G.dl (D :: δ)).ban ρ') H') (at_ : ∃ n, ρ' = ρ ++ n) (ef : Ext ρ H H') (r : RlF (G.dl δ) ρ H ws vs) : RlF (G.dl (D :: δ)) ρ' H' ws vs := by
  induction r with
  | nil => exact .nil
  | cons h r ih => exact .cons (h.more g at_ ef) ih
theorem StoOk.in_ {S : Sto} (so : StoOk (G.dl δ) ρ H S) (hD : H D = none) (k : Kp H H') (hD' : H' D ≠ none) : StoOk (G.dl (D :: δ)) ρ H' S := by
  have g : Grow ((G.dl δ).ban ρ) H ((G.dl (D :: δ)).ban ρ) H' := grow_in (k.gro ρ) hD
  refine ⟨so.len, ?_, fun i o a e1 e2 => ?_, fun a m => ?_⟩
  · have p : (ρ ++ D :: δ).Perm (D :: (ρ ++ δ)) := List.perm_middle
    exact p.nodup_iff.mpr (List.nodup_cons.mpr ⟨fun m => so.there D m hD, so.nd⟩)
  · have q := so.ob i o a e1 e2
    cases o with
    | lst l => obtain ⟨vs, e, r⟩ := q; exact ⟨vs, k _ _ e, Rls.go g _ _ r⟩
    | ins c fs => obtain ⟨C, dx, fv, c1, e, r⟩ := q; exact ⟨C, dx, fv, c1, k _ _ e, r.more g ⟨[], by simp⟩ (k.ext _)⟩
  · rcases List.mem_cons.mp m with q | q
    · rw [q]; exact hD'
    · exact (k.ext []).there _ (so.dl a q)
theorem StoOk.out {S : Sto} (so : StoOk (G.dl (D :: δ)) ρ H S) : StoOk (G.dl δ) ρ H S := by
  have sub : ∀ a ∈ (G.dl δ).ban ρ, a ∈ (G.dl (D :: δ)).ban ρ := fun a m => (ban_cons G δ ρ D a).mpr (.inr m)
  have p : (ρ ++ D :: δ).Perm (D :: (ρ ++ δ)) := List.perm_middle
  refine ⟨so.len, (List.nodup_cons.mp (p.nodup_iff.mp so.nd)).2, fun i o a e1 e2 => ?_, fun a m => so.dl a (List.mem_cons_of_mem _ m)⟩
  have q := so.ob i o a e1 e2
  cases o with
  | lst l => obtain ⟨vs, e, r⟩ := q; exact ⟨vs, e, Rls.less sub _ _ r⟩
  | ins c fs => obtain ⟨C, dx, fv, c1, e, r⟩ := q; exact ⟨C, dx, fv, c1, e, r.back⟩
theorem StoOk.notIn {S : Sto} (so : StoOk (G.dl (D :: δ)) ρ H S) : D ∉ (G.dl δ).ban ρ := by
  have p : (ρ ++ D :: δ).Perm (D :: (ρ ++ δ)) := List.perm_middle
  exact (List.nodup_cons.mp (p.nodup_iff.mp so.nd)).1
/-- D, in the making, is written -/
theorem StoOk.writeD {S : Sto} {vs ws : List V} (so : StoOk (G.dl (D :: δ)) ρ H S) (hD : H D = some (.lst vs)) : StoOk (G.dl (D :: δ)) ρ (upd H D (.lst ws)) S := by
  have nm : ∀ {a : Addr}, a ∈ ρ → a ≠ D := fun m e => so.notIn (e ▸ List.mem_append_left _ m)
  have g : Grow ((G.dl (D :: δ)).ban ρ) H ((G.dl (D :: δ)).ban ρ) (upd H D (.lst ws)) := ⟨⟨fun a o n e => by
      rw [upd_ne fun z => n ((ban_cons G δ ρ D a).mpr (.inl z))]; exact e, fun a xs e => by rw [upd_ne fun z => by rw [z, hD] at e; cases e]; exact e,
      fun a o u e => by rw [upd_ne fun z => by rw [z, hD] at e; cases e]; exact e, fun a h => by
        by_cases z : a = D
        · rw [z, upd_same]; simp
        · rw [upd_ne z]; exact h⟩, fun a m => .inl m⟩
  have rf : ∀ {w : W} {v : V}, RlW (G.dl (D :: δ)) ρ H w v → RlW (G.dl (D :: δ)) ρ (upd H D (.lst ws)) w v := fun {w v} r => by
    cases w with
    | p x => exact Rl.go g _ _ r
    | ref n => exact r
    | scr l => obtain ⟨a, vs, e, h, r⟩ := r; exact ⟨a, vs, e, h.go g.ext, Rls.go g _ _ r⟩
  have rfF : ∀ {x : List (Str × W)} {y : List (Str × V)}, RlF (G.dl (D :: δ)) ρ H x y → RlF (G.dl (D :: δ)) ρ (upd H D (.lst ws)) x y := fun {x y} r => by
    induction r with
    | nil => exact .nil
    | cons h r ih => exact .cons (rf h) ih
  refine ⟨so.len, so.nd, fun i o a e1 e2 => ?_, fun a m => g.ext.there a (so.dl a m)⟩
  have q := so.ob i o a e1 e2
  have na := nm (List.mem_of_getElem? e2)
  cases o with
  | lst l => obtain ⟨vs, e, r⟩ := q; exact ⟨vs, by rw [upd_ne na]; exact e, Rls.go g _ _ r⟩
  | ins c fs => obtain ⟨C, dx, fv, c1, e, r⟩ := q; exact ⟨C, dx, fv, c1, by rw [upd_ne na]; exact e, rfF r⟩
end
/-! ### [elt for tg in src if ..] -/
def turnF (C : Cl) (L : Loc) (own : List Nat) (tg : MG) (tt : MT) (elt : ME) : P → Sto → Res (Option P) := fun x S => match bindT (wipe L own) tg x with
  | none => .bad
  | some L2 => (evT C tt L2 S).bind fun k S => if k = true then (ev C elt L2 S).bind fun y S => (match y with
      | .p y => .ok (some y) S
      | _ => .bad) else .ok none S
/-- nothing is wished: no exception may leave -/
def noW : WX := fun _ _ _ _ => False
theorem takes_no {X : Cx} : Takes X noW := fun u s' ⟨a, B, sI, pins, σ, H, cls, d, e, I, nb, up, sky, na, os, ag, w⟩ => w.elim
theorem noEx_ok {α β : Type} {r : Res α} {f : α → Sto → Res β} {G : Gd} {ρ : List Addr} {H : Hp} {X : WX} {σ : L2.St} {γ : Type} {R : List Addr → Hp → β → γ → Prop} {Q : γ → Hp → Prop} (g : Gv G ρ H X σ R (noEx (r.bind f)) Q) : ∃ a S, r = .ok a S := by
  cases r with
  | ok a S => exact ⟨a, S, rfl⟩
  | ex e S => exact g.elim
  | bad => exact g.elim
/-- a new list: nobody else holds it yet -/
def Nw (G : Gd) (δ ρ : List Addr) (H : Hp) (X : WX) (σ : L2.St) (r : Res W) (Q : VK) : Prop := match r with
  | .ok (.p (.lst l)) S => ∀ ρ' H' p vs, Gro ρ H ρ' H' → StoOk (G.dl (p :: δ)) ρ' H' S → H p = none → H' p = some (.lst vs) → Rls G.K ((G.dl (p :: δ)).ban ρ') H' l vs → Q (.ref p) H'
  | .ex e S => ∀ ρ' H' cls d, Gro ρ H ρ' H' → StoOk (G.dl δ) ρ' H' S → ExR (G.dl δ) ρ' H' e cls d → X cls d σ H'
  | _ => False
def tEn (G : Gd) (C : Cl) (X : WX) (m : ME) : TE := fun σ H Q => ∃ δ ρ L S, LocOk (G.dl δ) ρ H L σ ∧ StoOk (G.dl δ) ρ H S ∧ Nw G δ ρ H X σ (ev C m L S) Q
section
variable {G : Gd} {δ ρ ρ1 : List Addr} {H H1 : Hp} {X : WX} {σ : L2.St} {Q : VK}
theorem none_back (g : Gro ρ H ρ1 H1) {p : Addr} (h : H1 p = none) : H p = none := by
  cases z : H p with
  | none => rfl
  | some o => exact absurd h (g.ext.there p (by rw [z]; simp))
theorem Nw.grow {r : Res W} (g : Gro ρ H ρ1 H1) (h : Nw G δ ρ H X σ r Q) : Nw G δ ρ1 H1 X σ r Q := by
  cases r with
  | bad => exact h
  | ex e S => exact fun ρ' H' c d g' => h ρ' H' c d (g.trans g')
  | ok w S =>
    cases w with
    | ref _ => exact h
    | scr _ => exact h
    | p x =>
      cases x with
      | lst l => exact fun ρ' H' p vs g' so hp => h ρ' H' p vs (g.trans g') so (none_back g hp)
      | _ => exact h
theorem Nw.step {α β : Type} {R : List Addr → Hp → α → β → Prop} {r : Res α} {f : α → Sto → Res W} {Q' : β → Hp → Prop} (h : Nw G δ ρ H X σ (r.bind f) Q)
    (k : ∀ w S ρ' H' u, Gro ρ H ρ' H' → StoOk (G.dl δ) ρ' H' S → R ρ' H' w u → Nw G δ ρ' H' X σ (f w S) Q → Q' u H') : Gv (G.dl δ) ρ H X σ R r Q' := by
  cases r with
  | ok w S => exact fun ρ' H' u g so rl => k w S ρ' H' u g so rl (Nw.grow g h)
  | ex e S => exact h
  | bad => exact h.elim
theorem Nw.ok {β : Type} {r : Res β} {f : β → Sto → Res W} (g : Nw G δ ρ H X σ (noEx (r.bind f)) Q) : ∃ a S, r = .ok a S := by
  cases r with
  | ok a S => exact ⟨a, S, rfl⟩
  | ex e S => exact g.elim
  | bad => exact g.elim
theorem Nw.of {S : Sto} {l : List P} (h : Gv (G.dl δ) ρ H X σ (RlW (G.dl δ)) (.ok (.p (.lst l)) S) Q) : Nw G δ ρ H X σ (.ok (.p (.lst l)) S) Q := fun ρ' H' p vs g so hp e r =>
  h ρ' H' _ g so.out (.lst so.notIn e (Rls.less (fun a m => (ban_cons G δ ρ' p a).mpr (.inr m)) _ _ r))
end
section
variable {X : Cx} {G : Gd} {C : Cl} {Wx : WX} {pos : Pos}
theorem se_compN (hK : X.K = G.K) {elt tg iter : Expr} {ifs : List Expr} {scope : Scope} {own : List (Str × Nat)} {mg : MG} {mi : MI} {mt : MT} {me : ME} (hc : X.calm = true) (hN : X.N.Nodup) (hi : PI X tg iter (tEi G C Wx mi)) (ok : BlkOk X.N X.env.scope scope own)
    (hg : ∀ (s : Shared) (H : Hp) (c : Addr) (cl : List (Str × Addr)) (fp : List Addr), PG (X.blk s H scope (compEnvC scope cl c X.env) fp) tg (gOf G.K mg))
    (ht : ∀ (s : Shared) (H : Hp) (c : Addr) (cl : List (Str × Addr)) (fp : List Addr), PTs (X.blk s H scope (compEnvC scope cl c X.env) fp) ifs (tEt G C noW mt))
    (he : ∀ (s : Shared) (H : Hp) (c : Addr) (cl : List (Str × Addr)) (fp : List Addr), PE (X.blk s H scope (compEnvC scope cl c X.env) fp) elt (tEv G C noW me))
    (hs : ∀ x, foldedSetIterable iter X.env x = pure x) (hsl : ∀ i ∈ mg.slots, i ∈ own.map (·.2)) :
    ∀ σ H Q, tEn G C Wx (.comp (own.map (·.2)) mg mi mt me) σ H Q → tLc (tEi G C Wx mi) (gOf G.K mg) (tEt G C noW mt) (tEv G C noW me) (own.map (·.2)) σ H Q := by
  rintro σ H Q ⟨δ, ρ, L, S, lo, so, g⟩
  unfold ev at g
  refine ⟨δ, ρ, L, S, lo, so, g.step fun l S1 ρ1 H1 J g1 so1 wk g => fun D hD => ?_⟩
  generalize hvs : own.map (·.2) = vs at g hsl ⊢
  have g : Nw G δ ρ1 H1 Wx σ (noEx ((compF (turnF C L vs mg mt me) l [] S1).bind fun r S => .ok (W.p (.lst r)) S)) Q := g
  obtain ⟨fin, Sf, hfin⟩ := g.ok
  rw [hfin] at g
  have g : Nw G δ ρ1 H1 Wx σ (.ok (W.p (.lst fin)) Sf) Q := g
  have k0 : Kp H1 (upd H1 D (.lst [])) := Kp.laid _ hD
  refine ⟨fun i m H => ∃ ρ' S' acc avs, m = l.length - i ∧ i ≤ l.length ∧ Gro ρ1 H1 ρ' H ∧ StoOk (G.dl (D :: δ)) ρ' H S' ∧ H D = some (.lst avs) ∧ Rls G.K ((G.dl (D :: δ)).ban ρ') H acc avs ∧ compF (turnF C L vs mg mt me) (l.drop i) acc S' = .ok fin Sf,
    ⟨l.length, ρ1, S1, [], [], by simp, Nat.zero_le _, k0.gro ρ1, so1.in_ hD k0 (by rw [upd_same]; simp), upd_same, .nil, hfin⟩, ?_⟩
  rintro i m H' ⟨ρ', S', acc, avs, rfl, hi, gr, so', hDv, ra, hrun⟩
  have wk' := wk i _ H' (grow_in (G := G) (δ := δ) gr hD)
  rcases Nat.lt_or_ge i l.length with hlt | hge
  · right
    have hp : l[i]? = some l[i] := List.getElem?_eq_getElem hlt
    obtain ⟨go, yl⟩ := wk'.2 _ hp
    rw [List.drop_eq_getElem_cons hlt] at hrun
    have hrun : (turnF C L vs mg mt me l[i] S').bind (fun y S => match y with
      | none => compF (turnF C L vs mg mt me) (l.drop (i + 1)) acc S
      | some y => if acc.length < sizeLine then compF (turnF C L vs mg mt me) (l.drop (i + 1)) (acc ++ [y]) S else .bad) = .ok fin Sf := hrun
    refine ⟨go, fun H'' => ∃ ρ' S' acc avs, Gro ρ1 H1 ρ' H'' ∧ StoOk (G.dl (D :: δ)) ρ' H'' S' ∧ H'' D = some (.lst avs) ∧ Rls G.K ((G.dl (D :: δ)).ban ρ') H'' acc avs ∧ compF (turnF C L vs mg mt me) (l.drop (i + 1)) acc S' = .ok fin Sf,
      fun H'' ⟨ρ'', S'', acc', avs', a1, a2, a3, a4, a5⟩ => ⟨l.length - (i + 1), by omega, ρ'', S'', acc', avs', rfl, hlt, a1, a2, a3, a4, a5⟩, fun x H2 y => ?_⟩
    obtain ⟨kp, rx⟩ := yl x H2 y
    have so2 := so'.kp kp
    have gr2 : Gro ρ1 H1 ρ' H2 := gr.trans (kp.gro ρ')
    have hD2 : H2 D = some (.lst avs) := kp _ _ hDv
    have ra2 := Rls.go (kp.grow _) _ _ ra
    -- the names
    have loD : LocOk (G.dl (D :: δ)) ρ' H2 L σ := ⟨lo.len, fun j w e => by
      obtain ⟨v, e1, r⟩ := lo.at_ j w e
      have all := g1.trans gr2
      have hDH : H D = none := by
        cases z : H D with
        | none => rfl
        | some o => exact absurd hD (g1.ext.there D (by rw [z]; simp))
      exact ⟨v, e1, r.more (grow_in all hDH) all.at_ all.ext⟩⟩
    have loW := loD.wipe vs
    cases eb : bindT (wipe L vs) mg l[i] with
    | none => unfold turnF at hrun; rw [eb] at hrun; cases hrun
    | some L2 =>
      refine bindT_ok (G := G.dl (D :: δ)) eb loW rx fun σ2 lo2 oa => ⟨wipe_same oa hsl, D :: δ, ρ', L2, S', lo2, so2, ?_⟩
      unfold turnF at hrun
      rw [eb] at hrun
      have hrun : ((evT C mt L2 S').bind fun k S => if k = true then (ev C me L2 S).bind fun y S => (match y with
        | .p y => .ok (some y) S
        | _ => .bad) else .ok none S).bind (fun y S => match y with
        | none => compF (turnF C L vs mg mt me) (l.drop (i + 1)) acc S
        | some y => if acc.length < sizeLine then compF (turnF C L vs mg mt me) (l.drop (i + 1)) (acc ++ [y]) S else .bad) = .ok fin Sf := hrun
      cases et : evT C mt L2 S' with
      | bad => rw [et] at hrun; cases hrun
      | ex e S => rw [et] at hrun; cases hrun
      | ok k S3 =>
        rw [et] at hrun
        intro ρ3 H3 u g3 so3 r3
        cases (show u = k from r3)
        have gr3 := gr2.trans g3
        have hD3 : H3 D = some (.lst avs) := g3.ext.keep _ _ (fun m => so2.notIn (List.mem_append_left _ m)) hD2
        have ra3 := Rls.go (g3.g (G.dl (D :: δ))) _ _ ra2
        cases k with
        | false => rw [if_neg (by simp)]; exact ⟨ρ3, S3, acc, avs, gr3, so3, hD3, ra3, hrun⟩
        | true =>
          rw [if_pos rfl]
          refine ⟨D :: δ, ρ3, L2, S3, lo2.go g3, so3, ?_⟩
          have hrun : ((ev C me L2 S3).bind fun y S => (match y with
            | .p y => .ok (some y) S
            | _ => .bad)).bind (fun y S => match y with
            | none => compF (turnF C L vs mg mt me) (l.drop (i + 1)) acc S
            | some y => if acc.length < sizeLine then compF (turnF C L vs mg mt me) (l.drop (i + 1)) (acc ++ [y]) S else .bad) = .ok fin Sf := hrun
          cases ee : ev C me L2 S3 with
          | bad => rw [ee] at hrun; cases hrun
          | ex e S => rw [ee] at hrun; cases hrun
          | ok w S4 =>
            rw [ee] at hrun
            intro ρ4 H4 u g4 so4 r4
            cases w with
            | ref _ => cases hrun
            | scr _ => cases hrun
            | p y =>
              have hrun : (if acc.length < sizeLine then compF (turnF C L vs mg mt me) (l.drop (i + 1)) (acc ++ [y]) S4 else .bad) = .ok fin Sf := hrun
              split at hrun
              · rename_i hz
                have hD4 : H4 D = some (.lst avs) := g4.ext.keep _ _ (fun m => so3.notIn (List.mem_append_left _ m)) hD3
                have ra4 := Rls.go (g4.g (G.dl (D :: δ))) _ _ ra3
                have gr4 := gr3.trans g4
                have gD : Grow ((G.dl (D :: δ)).ban ρ4) H4 ((G.dl (D :: δ)).ban ρ4) (upd H4 D (.lst (avs ++ [u]))) := ⟨⟨fun a o n e => by
                  rw [upd_ne fun z => n ((ban_cons G δ ρ4 D a).mpr (.inl z))]; exact e, fun a xs e => by rw [upd_ne fun z => by rw [z, hD4] at e; cases e]; exact e,
                  fun a o u e => by rw [upd_ne fun z => by rw [z, hD4] at e; cases e]; exact e, fun a h => by
                    by_cases z : a = D
                    · rw [z, upd_same]; simp
                    · rw [upd_ne z]; exact h⟩, fun a m => .inl m⟩
                refine ⟨avs, hD4, by rw [← ra4.length]; exact hz, ρ4, S4, acc ++ [y], avs ++ [u], ⟨⟨fun a o n e => ?_, fun a xs e => gD.ext.tups a xs (gr4.ext.tups a xs e), fun a o u e => gD.ext.frzs a o u (gr4.ext.frzs a o u e), fun a h => gD.ext.there a (gr4.ext.there a h)⟩, gr4.new, gr4.at_⟩, so4.writeD hD4, upd_same, ?_, hrun⟩
                · rw [upd_ne fun z => by rw [z, hD] at e; cases e]
                  exact gr4.ext.keep a o n e
                · exact Rls.append (Rls.go gD _ _ ra4) (.cons (Rl.go gD _ _ r4) .nil)
              · cases hrun
  · left
    refine ⟨wk'.1 hge, ?_⟩
    have he : l.drop i = [] := List.drop_eq_nil_of_le hge
    rw [he] at hrun
    cases hrun
    exact g ρ' H' D avs gr so' hD hDv ra
theorem tEn_comp {own : List Nat} {mg : MG} {mi : MI} {mt : MT} {me : ME} : ∀ σ H Q, tEv G C Wx (.comp own mg mi mt me) σ H Q → tEn G C Wx (.comp own mg mi mt me) σ H Q := by
  rintro σ H Q ⟨δ, ρ, L, S, lo, so, g⟩
  refine ⟨δ, ρ, L, S, lo, so, ?_⟩
  unfold ev at g ⊢
  cases z : evI C mi L S with
  | bad => rw [z] at g; exact g.elim
  | ex e S1 => rw [z] at g; exact g
  | ok l S1 =>
    rw [z] at g
    have g : Gv (G.dl δ) ρ H Wx σ (RlW (G.dl δ)) (noEx ((compF (turnF C L own mg mt me) l [] S1).bind fun r S => .ok (W.p (.lst r)) S)) Q := g
    show Nw G δ ρ H Wx σ (noEx ((compF (turnF C L own mg mt me) l [] S1).bind fun r S => .ok (W.p (.lst r)) S)) Q
    obtain ⟨a, S2, e⟩ := noEx_ok g
    rw [e] at g ⊢
    exact Nw.of g
theorem pe_comp (hK : X.K = G.K) {elt tg iter : Expr} {ifs : List Expr} {scope : Scope} {own : List (Str × Nat)} {mg : MG} {mi : MI} {mt : MT} {me : ME} (hc : X.calm = true) (hN : X.N.Nodup) (hi : PI X tg iter (tEi G C Wx mi)) (ok : BlkOk X.N X.env.scope scope own)
    (hg : ∀ (s : Shared) (H : Hp) (c : Addr) (cl : List (Str × Addr)) (fp : List Addr), PG (X.blk s H scope (compEnvC scope cl c X.env) fp) tg (gOf G.K mg))
    (ht : ∀ (s : Shared) (H : Hp) (c : Addr) (cl : List (Str × Addr)) (fp : List Addr), PTs (X.blk s H scope (compEnvC scope cl c X.env) fp) ifs (tEt G C noW mt))
    (he : ∀ (s : Shared) (H : Hp) (c : Addr) (cl : List (Str × Addr)) (fp : List Addr), PE (X.blk s H scope (compEnvC scope cl c X.env) fp) elt (tEv G C noW me))
    (hs : ∀ x, foldedSetIterable iter X.env x = pure x) (hsl : ∀ i ∈ mg.slots, i ∈ own.map (·.2)) : PE X (.ListComp elt [⟨tg, iter, ifs, 0⟩] scope pos) (tEv G C Wx (.comp (own.map (·.2)) mg mi mt me)) :=
  (pe_lc hc hN hi ok hg ht he hs).weak fun σ H Q h => se_compN hK hc hN hi ok hg ht he hs hsl σ H Q (tEn_comp σ H Q h)
end
end MP

set_option Elab.async false
set_option linter.all false
set_option maxRecDepth 100000
set_option autoImplicit false
/-! MP9: statements. -/
namespace MP
open PySem PySem.Spec PyProof.Rows L2 C8

/-- what a statement's outcome asks -/
def Xp (G : Gd) (ρ : List Addr) (H : Hp) (D : Ends) (X : WX) (r : XR) : Prop := match r with
  | none => False
  | some (o, S) => ∀ ρ' H', Gro ρ H ρ' H' → StoOk G ρ' H' S → match o with
    | .nx L => ∀ σ, LocOk G ρ' H' L σ → D.nx σ H'
    | .ret w => ∀ u, RlW G ρ' H' w u → D.rt u H'
    | .brk L => ∀ σ, LocOk G ρ' H' L σ → D.bk σ H'
    | .cnt L => ∀ σ, LocOk G ρ' H' L σ → D.ct σ H'
    | .exc e L => ∀ σ cls d, LocOk G ρ' H' L σ → ExR G ρ' H' e cls d → X cls d σ H'
def tEx (G : Gd) (X : WX) (f : Loc → Sto → XR) : TS := fun D σ H => ∃ δ ρ L S, LocOk (G.dl δ) ρ H L σ ∧ StoOk (G.dl δ) ρ H S ∧ Xp (G.dl δ) ρ H D X (f L S)
section
variable {G : Gd} {ρ ρ1 ρ' : List Addr} {H H1 H' : Hp} {D : Ends} {X : WX}
theorem Xp.grow {r : XR} (g : Gro ρ H ρ1 H1) (h : Xp G ρ H D X r) : Xp G ρ1 H1 D X r := by
  cases r with
  | none => exact h
  | some p => obtain ⟨o, S⟩ := p; exact fun ρ' H' g' so => h ρ' H' (g.trans g') so
theorem Xp.step {α β : Type} {R : List Addr → Hp → α → β → Prop} {L : Loc} {σ : L2.St} {r : Res α} {k : α → Sto → XR} {Q : β → Hp → Prop} (h : Xp G ρ H D X (lft L r k)) (lo : LocOk G ρ H L σ)
    (f : ∀ w S ρ' H' u, Gro ρ H ρ' H' → StoOk G ρ' H' S → R ρ' H' w u → LocOk G ρ' H' L σ → Xp G ρ' H' D X (k w S) → Q u H') : Gv G ρ H X σ R r Q := by
  cases r with
  | ok w S => exact fun ρ' H' u g so rl => f w S ρ' H' u g so rl (lo.go g) (Xp.grow g h)
  | ex e S => exact fun ρ' H' c d g so x => h ρ' H' g so σ c d (lo.go g) x
  | bad => exact h.elim
theorem Xp.nx {L : Loc} {S : Sto} {σ : L2.St} (h : Xp G ρ H D X (some (.nx L, S))) (so : StoOk G ρ H S) (lo : LocOk G ρ H L σ) : D.nx σ H := h ρ H (.refl _ _) so σ lo
theorem Xp.rt {w : W} {S : Sto} {u : V} (h : Xp G ρ H D X (some (.ret w, S))) (so : StoOk G ρ H S) (r : RlW G ρ H w u) : D.rt u H := h ρ H (.refl _ _) so u r
end
section
variable {X : Cx} {G : Gd} {C : Cl} {Wx : WX} {pos : Pos} {e o tg : Expr} {me mo : ME} {st : Stmt} {sts : List Stmt} {f g : Loc → Sto → XR} {n : Nat} {T : Tb}
theorem ss_nil : PSs X [] (tEx G Wx fun L S => some (.nx L, S)) := pss_nil.weak fun D σ H ⟨δ, ρ, L, S, lo, so, x⟩ => x.nx so lo
theorem ss_cons (h1 : PS X st (tEx G Wx f)) (h2 : PSs X sts (tEx G Wx g)) : PSs X (st :: sts) (tEx G Wx fun L S => match f L S with
    | some (.nx L', S') => g L' S'
    | r => r) := (pss_cons h1 h2).weak fun D σ H ⟨δ, ρ, L, S, lo, so, x⟩ => by
  refine ⟨δ, ρ, L, S, lo, so, ?_⟩
  dsimp only at x
  cases z : f L S with
  | none => rw [z] at x; exact x.elim
  | some p =>
    obtain ⟨o, S'⟩ := p
    rw [z] at x
    intro ρ' H' gr so'
    cases o with
    | nx L' => exact fun σ' lo' => ⟨δ, ρ', L', S', lo', so', Xp.grow gr x⟩
    | ret w => exact x ρ' H' gr so'
    | brk L' => exact x ρ' H' gr so'
    | cnt L' => exact x ρ' H' gr so'
    | exc e L' => exact x ρ' H' gr so'
theorem ss_pass : PS X (.Pass pos) (tEx G Wx (exs C .pass)) := ps_pass.weak fun D σ H ⟨δ, ρ, L, S, lo, so, x⟩ => x.nx so lo
theorem ss_brk : PS X (.Break pos) (tEx G Wx (exs C .brk)) := ps_break.weak fun D σ H ⟨δ, ρ, L, S, lo, so, x⟩ => x ρ H (.refl _ _) so σ lo
theorem ss_cnt : PS X (.Continue pos) (tEx G Wx (exs C .cnt)) := ps_continue.weak fun D σ H ⟨δ, ρ, L, S, lo, so, x⟩ => x ρ H (.refl _ _) so σ lo
theorem ss_retN : PS X (.Return none pos) (tEx G Wx (exs C .retN)) := ps_retN.weak fun D σ H ⟨δ, ρ, L, S, lo, so, x⟩ => x.rt so .non
theorem ss_ret (he : PE X e (tEv G C Wx me)) : PS X (.Return (some e) pos) (tEx G Wx (exs C (.ret me))) := (ps_ret he).weak fun D σ H ⟨δ, ρ, L, S, lo, so, x⟩ => by
  unfold exs at x
  exact ⟨δ, ρ, L, S, lo, so, x.step lo fun w S1 ρ1 H1 u g1 so1 r1 lo1 x => x.rt so1 r1⟩
theorem ss_expr (he : PE X e (tEv G C Wx me)) (hs : swapsWith e none pos.line X.env = pure false) : PS X (.Expr e pos) (tEx G Wx (exs C (.expr me))) := (ps_expr he hs).weak fun D σ H ⟨δ, ρ, L, S, lo, so, x⟩ => by
  unfold exs at x
  exact ⟨δ, ρ, L, S, lo, so, x.step lo fun w S1 ρ1 H1 u g1 so1 r1 lo1 x => x.nx so1 lo1⟩
theorem ss_if {t : Expr} {mt : MT} {a b : List Stmt} {ma mb : MSs} (ht : PT X t (tEt G C Wx mt)) (ha : PSs X a (tEx G Wx (exss C ma))) (hb : PSs X b (tEx G Wx (exss C mb))) : PS X (.If t a b pos) (tEx G Wx (exs C (.ifs mt ma mb))) :=
  (ps_if ht ha hb).weak fun D σ H ⟨δ, ρ, L, S, lo, so, x⟩ => by
    unfold exs at x
    refine ⟨δ, ρ, L, S, lo, so, x.step lo fun w S1 ρ1 H1 u g1 so1 r1 lo1 x => ?_⟩
    cases (show u = w from r1)
    cases w with
    | true => rw [if_pos rfl] at x ⊢; exact ⟨δ, ρ1, L, S1, lo1, so1, x⟩
    | false => rw [if_neg (by simp)] at x ⊢; exact ⟨δ, ρ1, L, S1, lo1, so1, x⟩
theorem ss_while {t : Expr} {mt : MT} {b : List Stmt} {mb : MSs} (hp : PassesOwn (model X.prog X.w) X.A X.env X.xe) (ht : PT X t (tEt G C Wx mt)) (hb : PSs X b (tEx G Wx (exss C mb))) : PS X (.While t b [] pos) (tEx G Wx (exs C (.whl mt mb))) :=
  (ps_while hp ht hb).weak fun D σ H ⟨δ, ρ, L, S, lo, so, x⟩ => by
    unfold exs at x
    refine ⟨fun m σ H => ∃ ρ L S, LocOk (G.dl δ) ρ H L σ ∧ StoOk (G.dl δ) ρ H S ∧ Xp (G.dl δ) ρ H D Wx (whlF (evT C mt) (exss C mb) m L S), ⟨fuel, ρ, L, S, lo, so, x⟩, ?_⟩
    rintro m σ H ⟨ρ, L, S, lo, so, x⟩
    cases m with
    | zero => exact x.elim
    | succ m =>
      unfold whlF at x
      refine ⟨δ, ρ, L, S, lo, so, x.step lo fun w S1 ρ1 H1 u g1 so1 r1 lo1 x => ?_⟩
      cases (show u = w from r1)
      cases w with
      | false => rw [if_neg (by simp)] at x ⊢; exact x.nx so1 lo1
      | true =>
        rw [if_pos rfl] at x ⊢
        refine ⟨fun σ H => ∃ ρ L S, LocOk (G.dl δ) ρ H L σ ∧ StoOk (G.dl δ) ρ H S ∧ Xp (G.dl δ) ρ H D Wx (whlF (evT C mt) (exss C mb) m L S), fun σ' H' z => ⟨m, Nat.lt_succ_self m, z⟩, δ, ρ1, L, S1, lo1, so1, ?_⟩
        cases z : exss C mb L S1 with
        | none => rw [z] at x; exact x.elim
        | some p =>
          obtain ⟨o, S2⟩ := p
          rw [z] at x
          intro ρ2 H2 gr so2
          cases o with
          | nx L' => exact fun σ' lo' => ⟨ρ2, L', S2, lo', so2, Xp.grow gr x⟩
          | cnt L' => exact fun σ' lo' => ⟨ρ2, L', S2, lo', so2, Xp.grow gr x⟩
          | brk L' => exact x ρ2 H2 gr so2
          | ret w => exact x ρ2 H2 gr so2
          | exc e L' => exact x ρ2 H2 gr so2
theorem ss_for {mg : MG} {mi : MI} {b : List Stmt} {mb : MSs} (hp : PassesOwn (model X.prog X.w) X.A X.env X.xe) (hc : X.calm = true) (hi : PI X tg e (tEi G C Wx mi)) (hg : PG X tg (gOf G.K mg)) (hb : PSs X b (tEx G Wx (exss C mb)))
    (hs : ∀ x, foldedSetIterable e X.env x = pure x) : PS X (.For tg e b [] pos) (tEx G Wx (exs C (.for_ mg mi mb))) :=
  (ps_for hp hc hi hg hb hs).weak fun D σ H ⟨δ, ρ, L, S, lo, so, x⟩ => by
    unfold exs at x
    refine ⟨δ, ρ, L, S, lo, so, x.step lo fun l S1 ρ1 H1 J g1 so1 wk lo1 x => ?_⟩
    refine ⟨fun i m σ H => m = l.length - i ∧ i ≤ l.length ∧ ∃ ρ L S, Gro ρ1 H1 ρ H ∧ LocOk (G.dl δ) ρ H L σ ∧ StoOk (G.dl δ) ρ H S ∧ Xp (G.dl δ) ρ H D Wx (forF mg (exss C mb) (l.drop i) L S), ⟨l.length, by simp, Nat.zero_le _, ρ1, L, S1, .refl _ _, lo1, so1, x⟩, ?_⟩
    rintro i m σ H ⟨rfl, hi, ρ, L, S, gr, lo, so, x⟩
    have w := wk i _ H (gr.g (G.dl δ))
    rcases Nat.lt_or_ge i l.length with hlt | hge
    · right
      obtain ⟨go, yl⟩ := w.2 _ (List.getElem?_eq_getElem hlt)
      rw [List.drop_eq_getElem_cons hlt] at x
      refine ⟨go, fun σ H => ∃ ρ L S, Gro ρ1 H1 ρ H ∧ LocOk (G.dl δ) ρ H L σ ∧ StoOk (G.dl δ) ρ H S ∧ Xp (G.dl δ) ρ H D Wx (forF mg (exss C mb) (l.drop (i + 1)) L S), fun σ' H' z => ⟨l.length - (i + 1), by omega, rfl, hlt, z⟩, fun v H2 y => ?_⟩
      obtain ⟨kp, rv⟩ := yl v H2 y
      have gk := kp.gro ρ
      have x := Xp.grow gk x
      unfold forF at x
      cases eb : bindT L mg l[i] with
      | none => rw [eb] at x; exact x.elim
      | some M =>
        rw [eb] at x
        have x : Xp (G.dl δ) ρ H2 D Wx (match exss C mb M S with
          | some (.nx L', S') => forF mg (exss C mb) (l.drop (i + 1)) L' S'
          | some (.cnt L', S') => forF mg (exss C mb) (l.drop (i + 1)) L' S'
          | some (.brk L', S') => some (.nx L', S')
          | r => r) := x
        refine bindT_ok (G := G.dl δ) eb (lo.go gk) rv fun σ2 lo2 _ => ⟨δ, ρ, M, S, lo2, so.kp kp, ?_⟩
        cases z : exss C mb M S with
        | none => rw [z] at x; exact x.elim
        | some p =>
          obtain ⟨o, S2⟩ := p
          rw [z] at x
          intro ρ2 H3 gr2 so2
          have gr3 := (gr.trans gk).trans gr2
          cases o with
          | nx L' => exact fun σ' lo' => ⟨ρ2, L', S2, gr3, lo', so2, Xp.grow gr2 x⟩
          | cnt L' => exact fun σ' lo' => ⟨ρ2, L', S2, gr3, lo', so2, Xp.grow gr2 x⟩
          | brk L' => exact x ρ2 H3 gr2 so2
          | ret w => exact x ρ2 H3 gr2 so2
          | exc e L' => exact x ρ2 H3 gr2 so2
    · left
      rw [List.drop_eq_nil_of_le hge] at x
      exact ⟨w.1 hge, x.nx so lo⟩
/-! ### assignments -/
theorem ss_set {mg : MG} (hK : X.K = G.K) (he : PE X e (tEv G C Wx me)) (hg : PG X tg (gOf G.K mg)) (hs : swapsWithSole [tg] e pos.line X.env = pure false) (hw : swappedStores [tg] e X.env = pure none) (h1 : (assignEach [tg] X.env).map (·.2) = [assign tg X.env]) : PS X (.Assign [tg] e pos) (tEx G Wx (exs C (.set (.g mg) me))) :=
  (ps_asg he hg hs hw h1).weak fun D σ H ⟨δ, ρ, L, S, lo, so, x⟩ => by
    unfold exs at x
    refine ⟨δ, ρ, L, S, lo, so, x.step lo fun w S1 ρ1 H1 u g1 so1 r1 lo1 x => ?_⟩
    unfold exG at x
    cases mg with
    | name i => exact x.nx so1 (lo1.set r1 i)
    | names is =>
      dsimp only at x
      cases z : rd S1 w with
      | none => rw [z] at x; exact x.elim
      | some p =>
        rw [z] at x
        dsimp only at x
        cases eb : bindT L (.names is) p with
        | none => rw [eb] at x; exact x.elim
        | some M =>
          rw [eb] at x
          cases p with
          | tup l =>
            have r := r1.rr so1 z
            cases r with
            | of r => exact bindT_ok (G := G.dl δ) eb lo1 r fun σ2 lo2 _ => x.nx so1 lo2
          | _ => cases eb
theorem ss_setLc {i : Nat} {y : Str} {py : Pos} {elt iter : Expr} {ifs : List Expr} {scope : Scope} {own : List (Str × Nat)} {mi : MI} {mg : MG} {mt : MT} {spos : Pos} (hK : X.K = G.K) (hc : X.calm = true) (hN : X.N.Nodup) (hy : X.N[i]? = some y) (hyl : X.env.scope.names.lookup y = some .local)
    (hsw : swapsWith (.ListComp elt [⟨tg, iter, ifs, 0⟩] scope pos) (some (.Name y py)) spos.line X.env = pure true) (hi : PI X tg iter (tEi G C Wx mi)) (ok : BlkOk X.N X.env.scope scope own)
    (hg : ∀ (s : Shared) (H : Hp) (c : Addr) (cl : List (Str × Addr)) (fp : List Addr), PG (X.blk s H scope (compEnvC scope cl c X.env) fp) tg (gOf G.K mg))
    (ht : ∀ (s : Shared) (H : Hp) (c : Addr) (cl : List (Str × Addr)) (fp : List Addr), PTs (X.blk s H scope (compEnvC scope cl c X.env) fp) ifs (tEt G C noW mt))
    (he : ∀ (s : Shared) (H : Hp) (c : Addr) (cl : List (Str × Addr)) (fp : List Addr), PE (X.blk s H scope (compEnvC scope cl c X.env) fp) elt (tEv G C noW me))
    (hs : ∀ x, foldedSetIterable iter X.env x = pure x) (hsl : ∀ i ∈ mg.slots, i ∈ own.map (·.2)) :
    PS X (.Assign [.Name y py] (.ListComp elt [⟨tg, iter, ifs, 0⟩] scope pos) spos) (tEx G Wx (exs C (.set (.g (.name i)) (.comp (own.map (·.2)) mg mi mt me)))) :=
  (ps_setLc hc hN hy hyl hsw hi ok hg ht he hs).weak fun D σ H ⟨δ, ρ, L, S, lo, so, x⟩ => by
    unfold exs at x
    refine se_compN hK hc hN hi ok hg ht he hs hsl σ H _ (tEn_comp σ H _ ⟨δ, ρ, L, S, lo, so, x.step lo fun w S1 ρ1 H1 u g1 so1 r1 lo1 x => ?_⟩)
    unfold exG at x
    exact x.nx so1 (lo1.set r1 i)
theorem ss_aug {i : Nat} {y : Str} {op : BOp} {py : Pos} (hN : X.N.Nodup) (hi : X.N[i]? = some y) (hx : L2.Loc X.env.scope y) (he : PE X e (tEv G C Wx me)) (hf : X.fn y = true ∨ X.env.scope.names.lookup y = some .local) :
    PS X (.AugAssign (.Name y py) op.py e pos) (tEx G Wx (exs C (.aug i op me))) := by
  have ho : PIp X op.py (fun x y H Q => ∃ i j r, x = .int i ∧ y = .int j ∧ bop op (.int i) (.int j) = some r ∧ ∀ u, (∃ k, r = .int k ∧ u = .int k) → Q u H) := by
    intro pins s σ H x y v u Q I rx ry ⟨i, j, r, ex, ey, eb, q⟩
    cases op with
    | add => cases eb; exact iop_add pins s σ H x y v u Q I rx ry ⟨i, j, ex, ey, q _ ⟨_, rfl, rfl⟩⟩
    | sub => cases eb; exact iop_sub pins s σ H x y v u Q I rx ry ⟨i, j, ex, ey, q _ ⟨_, rfl, rfl⟩⟩
    | mul =>
      obtain ⟨hz, rfl⟩ := ite_some (show (if (-(2 ^ 64) < i ∧ i < 2 ^ 64) ∨ (-(2 ^ 64) < j ∧ j < 2 ^ 64) then some (P.int (i * j)) else none) = some r from eb)
      exact iop_mul pins s σ H x y v u Q I rx ry ⟨i, j, ex, ey, hz, q _ ⟨_, rfl, rfl⟩⟩
    | fdiv =>
      obtain ⟨hz, rfl⟩ := ite_some (show (if 0 < j ∧ j < 1073741824 then some (P.int (i / j)) else none) = some r from eb)
      exact iop_fdiv pins s σ H x y v u Q I rx ry ⟨i, j, ex, ey, hz, q _ ⟨_, rfl, rfl⟩⟩
    | mod =>
      obtain ⟨hz, rfl⟩ := ite_some (show (if 0 < j then some (P.int (i % j)) else none) = some r from eb)
      exact iop_mod pins s σ H x y v u Q I rx ry ⟨i, j, ex, ey, hz, q _ ⟨_, rfl, rfl⟩⟩
  refine (ps_aug hN hi hx he ho hf).weak fun D σ H ⟨δ, ρ, L, S, lo, so, x⟩ => ?_
  unfold exs at x
  split at x
  · rename_i p hL
    obtain ⟨v, ev, rv⟩ := lo.at_ i _ hL
    refine ⟨v, ev, δ, ρ, L, S, lo, so, x.step lo fun w S1 ρ1 H1 u g1 so1 r1 lo1 x => ?_⟩
    cases z : (rd S1 w).bind fun q => iopP op p q with
    | none => rw [z] at x; exact x.elim
    | some r =>
      rw [z] at x
      obtain ⟨q, e1, e2⟩ := Option.bind_eq_some_iff.mp z
      cases p with
      | int a =>
        cases q with
        | int b =>
          cases rv
          refine ⟨a, b, r, rfl, (r1.rr so1 e1).int, e2, fun u ⟨k, er, eu⟩ => ?_⟩
          subst er eu
          exact x.nx so1 (lo1.set (w := .p (.int k)) (.int k) i)
        | _ => cases e2
      | _ => cases q <;> cases e2
  · exact x.elim
end
end MP

set_option Elab.async false
set_option linter.all false
set_option maxRecDepth 100000
set_option autoImplicit false
/-! MS1: sorting data that are alike, tuples without items among them. -/
namespace MP
open PySem PySem.W PySem.SeqAt PySem.Calls PyProof.Rows
def TupAt (h : Heap) (v : Value) (xs : Array Value) : Prop := ∃ a o n, v = .ref a ∧ h.get? a = some o ∧ o.cls = .type "tuple" ∧ o.data = .seq xs n
section
variable {M : Model} {A : Around} {E : Value → Shared → Prop} {s : Shared}
theorem TupAt.looks {v : Value} {xs : Array Value} (t : TupAt s.heap v xs) : Looks M s.heap (typeOf v) (.type "tuple") := by
  obtain ⟨a, o, n, rfl, ho, hc, hd⟩ := t
  exact hc ▸ (Looks.ld ho).andThen .now
theorem first_one {v : Value} {xs : Array Value} {Q : Option Value → Shared → Prop} (t : TupAt s.heap v xs) (h : Q xs[0]? s) : wpAny M A (firstOfTuple' v) Q E s := by
  rw [kas_first_eq]
  refine wpAny_bind (t.looks.here ?_)
  rw [if_neg (by decide)]
  obtain ⟨a, o, n, rfl, ho, hc, hd⟩ := t
  exact wpAny_bind (listItems_at ho hd (wpAny_pure h))
theorem first_all : ∀ (vs : List Value) (xss : List (Array Value)) {Q : List (Option Value) → Shared → Prop}, EachIs (TupAt s.heap) vs xss → Q (xss.map fun xs => xs[0]?) s → wpAny M A (vs.mapM firstOfTuple') Q E s
  | _, _, _, .nil, h => by rw [List.mapM_nil]; exact wpAny_pure h
  | _, _, Q, .cons (a := v) (b := xs) (as := vs) (bs := xss) t ts, h => by
    rw [List.mapM_cons]
    refine wpAny_bind (first_one t ?_)
    exact wpAny_bind (first_all vs xss (Q := fun bs s' => wpAny M A (pure (xs[0]? :: bs)) Q E s') ts (wpAny_pure h))
end
section
variable {prog : Program} {w : World} {A : Around} {E : Value → Shared → Prop} {s : Shared}
theorem call_tup_lt {Q : Value → Shared → Prop} {l b : Addr} {items items2 : Array Value} {e r : Nat → Bool} (hl : s.heap.IsTuple l items) (hb : s.heap.IsTuple b items2)
    (he : ∀ j (h1 : j < items.size) (h2 : j < items2.size), EqAt A.in1 s items[j] items2[j] (e j)) (hr : ∀ j (h1 : j < items.size) (h2 : j < items2.size), e j = false → RcLt A.in1 s items[j] items2[j] (r j))
    (h : Q (.bool (firstLt e r (decide (items.size < items2.size)) (List.range (min items.size items2.size)))) s) : wpAny (model prog w) A (call (.builtin "tuple.__lt__") [.ref l, .ref b]) Q E s := by
  obtain ⟨⟨cls, dd, data, sl⟩, ho, hc, n, hd⟩ := id hl
  obtain ⟨⟨cls2, dd2, data2, sl2⟩, ho2, hc2, n2, hd2⟩ := id hb
  simp only at hc hd hc2 hd2
  subst hc hd hc2 hd2
  exact call_meets F.slot_tuple_lt ⟨_, ho, rfl⟩ F.entry_tuple_lt (F.args_tuple_lt_2 _ _) (tuple_ltAt l b items items2 n n2 dd dd2 sl sl2 e r) ⟨ho, ho2, he, hr, h⟩
theorem one_tup {xs ys : List PyData} {a b : Value} {as bs : List Addr} {Q : Bool → Shared → Prop} (ra : Reads s.heap a (.tuple xs) as) (rb : Reads s.heap b (.tuple ys) bs) (h : alike (.tuple xs) (.tuple ys) = true)
    (hu : A.units + min (PyData.depth (.tuple xs)) (PyData.depth (.tuple ys)) < cLine) (hq : Q (dataLt (.tuple xs) (.tuple ys)) s) : wpAny (model prog w) A (oneLt' true a b) Q E s := by
  have hal : alikeAll xs ys = true := by simpa [alike] using h
  cases ra with
  | @tuple l o vs n _ as₁ h1 h2 h3 h4 =>
    cases rb with
    | @tuple l' o' vs' n' _ bs₁ k1 k2 k3 k4 =>
      have n1 : vs.size = xs.length := by simpa using ReadsAll.length _ _ _ h4
      have n2 : vs'.size = ys.length := by simpa using ReadsAll.length _ _ _ k4
      rw [dataLt_tuple, ← firstLt_toks xs ys hal, ← n1, ← n2] at hq
      rw [oneLt'_eq]
      simp only [if_true]
      refine wpAny_bind (wpAny_cRoomFor (room_here hu) ?_)
      refine wpAny_bind (wpAny_callSpecialIfBound?_slot (T := "tuple") ⟨_, h1, h2⟩ F.slot_tuple_lt (call_tup_lt (e := pairEq xs ys) (r := fun j => dataLt (xs.getD j .none) (ys.getD j .none)) ⟨_, h1, h2, _, h3⟩ ⟨_, k1, k2, _, k3⟩ (fun j j1 j2 => ?_) (fun j j1 j2 hj => ?_) ?_))
      · have := eqAt_alikeAll xs ys A.in1 s vs.toList vs'.toList _ _ h4 k4 hal (room_in hu) j (by simpa using j1) (by simpa using j2)
        simpa using this
      · have := rcLt_alikeAll xs ys A.in1 s vs.toList vs'.toList _ _ h4 k4 hal (room_in hu) j (by simpa using j1) (by simpa using j2) hj
        simpa using this
      · exact wpAny_truthy_bool hq
theorem keyLt_gen (x y : Value) : keyLt' general' x y = oneLt' false x y := rfl
theorem alike_tup {x : PyData} {ys : List PyData} (h : alike (.tuple ys) x = true) : ∃ xs, x = .tuple xs := by
  cases x with
  | tuple xs => exact ⟨xs, rfl⟩
  | _ => exact absurd h (by simp [alike])
/-- data that are alike, none of them None, can be sorted -/
theorem sorts_any {vs : List Value} {ds : List PyData} (e : EachIs (fun v d => ∃ as, Reads s.heap v d as) vs ds) (hal : AllAlike ds) (hn : ∀ d ∈ ds, d ≠ .none) (hu : ∀ d, d ∈ ds → A.units + d.depth < cLine) : SortsAt prog w A s (dataKind s.heap ds) vs := by
  by_cases hk : Sortable ds
  · exact SortsAt.data e hal hk hu
  -- some tuple without items
  have ht : ∀ d ∈ ds, ∃ xs, d = .tuple xs := by
    have hs : ¬ ∀ d, d ∈ ds → d ≠ .none ∧ ∀ xs, d ≠ .tuple xs := fun z => hk (.inr z)
    have ⟨d₀, h0, ys, e0⟩ : ∃ d₀ ∈ ds, ∃ ys, d₀ = PyData.tuple ys := by
      refine Classical.byContradiction fun z => hs fun d hd => ⟨hn d hd, fun xs ex => z ⟨d, hd, xs, ex⟩⟩
    subst e0
    exact fun d hd => alike_tup (hal _ h0 d hd)
  have hb : ∃ d ∈ ds, d = .tuple [] := by
    refine Classical.byContradiction fun z => hk (.inl fun d hd => ?_)
    obtain ⟨xs, rfl⟩ := ht d hd
    cases xs with
    | nil => exact absurd ⟨_, hd, rfl⟩ z
    | cons x r => exact ⟨x, r, rfl⟩
  have each : ∀ {vs : List Value} {es : List PyData}, EachIs (fun v d => ∃ as, Reads s.heap v d as) vs es → (∀ d ∈ es, ∃ xs, d = .tuple xs) → ∃ xss, EachIs (TupAt s.heap) vs xss ∧ ((∃ d ∈ es, d = .tuple []) → ((xss.map fun xs => xs[0]?).toArray.all fun x => x.isSome) = false) := by
    intro vs es h
    induction h with
    | nil => exact fun _ => ⟨[], .nil, fun ⟨d, hd, _⟩ => absurd hd (by simp)⟩
    | cons r _ ih =>
      intro hh
      obtain ⟨xss, h1, h2⟩ := ih fun d hd => hh d (List.mem_cons_of_mem _ hd)
      obtain ⟨xs, rfl⟩ := hh _ (List.mem_cons_self ..)
      obtain ⟨as, r⟩ := r
      cases r with
      | @tuple a o ys n _ _ ho hc hd hr =>
        refine ⟨ys :: xss, .cons ⟨a, o, n, rfl, ho, hc, hd⟩ h1, fun ⟨d, hd, e⟩ => ?_⟩
        rcases List.mem_cons.mp hd with q | q
        · rw [e] at q
          injection q with q
          subst q
          have z : ys.toList = [] := by
            generalize ys.toList = zs at hr
            cases hr; rfl
          have z2 : ys[0]? = none := by rw [← Array.getElem?_toList, z]; rfl
          simp [z2]
        · have w := h2 ⟨d, q, e⟩
          simp only [List.all_toArray] at w ⊢
          rw [List.map_cons, List.all_cons, w, Bool.and_false]
  obtain ⟨xss, hx1, hx2⟩ := each e ht
  have hx2 := hx2 hb
  refine ⟨fun v hv => ?_, ?_⟩
  · obtain ⟨d, hd, as, r⟩ := e.left v hv
    exact ⟨_, dataKind_some hal hd r⟩
  have room : ∀ {d d' : PyData}, d ∈ ds → A.units + min d.depth d'.depth < cLine := fun {d d'} hd => Nat.lt_of_le_of_lt (Nat.add_le_add_left (Nat.min_le_left _ _) _) (hu d hd)
  have gen : H.LtAt prog w A s (dataKind s.heap ds) general' := by
    intro E x y a b Q ha hb hq
    obtain ⟨d, as, hd, ra, rfl⟩ := dataKind_inv ha
    obtain ⟨d', as', hd', rb, rfl⟩ := dataKind_inv hb
    rw [keyLt_gen]
    exact oneLt_alike (fun z => nomatch z) ra rb (hal d hd d' hd') (hn d hd) (room hd) hq
  have one : H.LtAt prog w A s (dataKind s.heap ds) oneType' := by
    intro E x y a b Q ha hb hq
    obtain ⟨d, as, hd, ra, rfl⟩ := dataKind_inv ha
    obtain ⟨d', as', hd', rb, rfl⟩ := dataKind_inv hb
    obtain ⟨xs, rfl⟩ := ht d hd
    obtain ⟨ys, rfl⟩ := ht d' hd'
    rw [keyLt'_oneType]
    exact one_tup ra rb (hal _ hd _ hd') (room hd) hq
  by_cases hfirst : ∃ f, (xss.map fun xs => xs[0]?)[0]? = some (some f)
  · refine ⟨general', gen, fun h2 E Q hq => ?_⟩
    obtain ⟨f, hf⟩ := hfirst
    rw [keyKind'_eq, List.mapM_toArray, map_eq_pure_bind]
    refine wpAny_bind (wpAny_bind (first_all vs xss hx1 (wpAny_pure ?_)))
    rw [if_neg (by rw [hx2]; exact Bool.false_ne_true), if_pos (by simp only [List.getElem?_toArray, hf]; rfl)]
    exact wpAny_pure hq
  · refine ⟨oneType', one, fun h2 E Q hq => ?_⟩
    rw [keyKind'_eq, List.mapM_toArray, map_eq_pure_bind]
    refine wpAny_bind (wpAny_bind (first_all vs xss hx1 (wpAny_pure ?_)))
    rw [if_neg (by rw [hx2]; exact Bool.false_ne_true), if_neg (by
      simp only [List.getElem?_toArray]
      intro z
      cases q : (xss.map fun xs => xs[0]?)[0]? with
      | none => rw [q] at z; exact absurd z (by simp)
      | some o =>
        cases o with
        | none => rw [q] at z; exact absurd z (by simp)
        | some f => exact hfirst ⟨f, q⟩)]
    rw [oneTypeOnly'_eq, List.mapM_toArray, map_eq_pure_bind]
    refine wpAny_bind (wpAny_bind (wpAny_bind (kas_mapM (r := Value.type "tuple") _ (fun v hv Q' hq => ?_) (wpAny_pure ?_))))
    · obtain ⟨xs, _, t⟩ := hx1.left v hv
      exact t.looks.here hq
    · obtain ⟨v₁, rest, rfl⟩ : ∃ v₁ rest, vs = v₁ :: rest := by
        cases vs with
        | nil => exact absurd h2 (by simp)
        | cons a r => exact ⟨a, r, rfl⟩
      have hall : ((List.map (fun _ => Value.type "tuple") (v₁ :: rest)).toArray.all fun x => x == Value.type "tuple") = true := by
        simp only [List.all_toArray, List.all_map, List.all_eq_true]
        intro _ _
        rfl
      have h1 : (List.map (fun _ => Value.type "tuple") (v₁ :: rest)).toArray[0]? = some (Value.type "tuple") := by simp
      rw [h1]
      simp only [hall, if_true]
      exact wpAny_pure (wpAny_pure hq)
end
end MP

set_option Elab.async false
set_option linter.all false
set_option maxRecDepth 100000
set_option autoImplicit false
set_option maxHeartbeats 4000000
/-! MS2: sorted(set(xs)), sorted(xs). -/
namespace MP
open PySem PySem.Spec PySem.W PyProof.Rows L2
theorem perm_of_map {α β : Type} {f : α → β} {l m : List β} (h : l.Perm m) : ∀ L : List α, m = L.map f → ∃ L1 : List α, L1.Perm L ∧ l = L1.map f := by
  induction h with
  | nil =>
    intro L e
    cases L with
    | nil => exact ⟨[], .refl _, rfl⟩
    | cons a r => cases e
  | cons x _ ih =>
    intro L e
    cases L with
    | nil => cases e
    | cons a r =>
      injection e with e1 e2
      obtain ⟨L1, p, q⟩ := ih r e2
      exact ⟨a :: L1, p.cons a, by rw [q, e1]; rfl⟩
  | swap x y l =>
    intro L e
    match L, e with
    | [], e => cases e
    | [_], e => cases e
    | a :: b :: r, e =>
      injection e with e1 e2
      injection e2 with e2 e3
      exact ⟨b :: a :: r, .swap .., by rw [e1, e2, e3]; rfl⟩
  | trans _ _ ih1 ih2 =>
    intro L e
    obtain ⟨L1, p1, q1⟩ := ih2 L e
    obtain ⟨L2, p2, q2⟩ := ih1 L1 q1
    exact ⟨L2, p2.trans p1, q2⟩
def encT (q : Addr × List Int) : PyData := .tuple (q.2.map .int)
theorem le_encT (p q : Addr × List Int) : dataLe false encT p q = !decide (q.2 < p.2) := by
  rw [dataLe_eq]
  show (!dataLt (.tuple (q.2.map .int)) (.tuple (p.2.map .int))) = _
  rw [dataLt_tuple]
  show (!rowLt (q.2.map .int) (p.2.map .int)) = _
  rw [dataLt_ints]
theorem alike_encT (L : List (Addr × List Int)) : AllAlike (L.map encT) := AllAlike.of fun b b' => by
  show alike (.tuple _) (.tuple _) = true
  simp only [alike]
  exact alike_ints _ _
theorem reads_ints {h : Heap} : ∀ {k : List Int} {us : List Value}, IntsAre us k → ReadsAll h us (k.map .int) []
  | _, _, .nil => .nil
  | _, _, .cons n t r => .cons (as := []) (.int n t) (reads_ints r)
theorem reads_tup {P : Program} {w : World} {h : Heap} {k : List Int} {b : Addr} (x : IsT P w h k b) : Reads h (.ref b) (.tuple (k.map .int)) [] := by
  obtain ⟨o, its, n, ho, hc, hd, hi⟩ := x
  exact .tuple ho hc hd (reads_ints (ints_of_items hi))
section
variable {P : Program} {w : World} {A : Around} {E : Value → Shared → Prop} {s : Shared}
theorem sorted_setD {a : Addr} {L : List (Addr × List Int)} {es : Array (Int × Value)} {ep : Nat} {t : SetTable} {Q : Value → Shared → Prop} (R : SetTR P w s.heap a L es ep t) (hh : A.handled = none) (hu : A.units + 5 < cLine)
    (hQ : ∀ s' p (out : Array Value) (c : Nat) (L' : List (Addr × List Int)), (∀ b o, s.heap.get? b = some o → s'.heap.get? b = some o) → s'.gens = s.gens → s'.os = s.os → s.heap.objs.size ≤ p →
      s'.heap.get? p = some (seqObj "list" out c) → out.toList = L'.map (fun q => Value.ref q.1) → L'.Perm L → L'.Pairwise (fun q r => ¬ r.2 < q.2) → Q (.ref p) s') :
    wpAny (model P w) A (call (.builtin "sorted") [.ref a]) Q E s := by
  obtain ⟨o, ho, hex, hd⟩ := R.ob
  have hsz := R.size
  have hfew := R.few
  refine Calls.call_function_entry kind_sorted plain_sorted entry_sorted (args_sorted1 _) ?_
  unfold Builtin.«sorted»
  refine wpAny_bind (m := checkCount "sorted" 1 1 _) (wpAny_pure ?_)
  refine wpAny_bind (collect_set (A := A.in1) hh ⟨o, ho, hex.1, hd⟩ R.fits (by unfold scanBound; omega) R.tab.ris R.led fun s1 vs k1 hz g1 o1 pm => ?_)
  have hes : es.toList.map (·.2) = L.map fun q => Value.ref q.1 := by
    rw [R.rows]; unfold L2.rowsOf; rw [List.map_map] <;> rfl
  rw [hes] at pm
  obtain ⟨L1, p1, e1⟩ := perm_of_map pm L rfl
  have hvl : vs.length < 64 := by rw [e1, List.length_map, p1.length_eq]; exact hfew
  have hvS : vs.length ≤ sizeLine := by rw [sizeLine_eq]; omega
  refine wpAny_bind (wpAny_newList ?_ hvS)
  have hoL : (s1.heap.push (seqObj "list" vs.toArray 0)).get? s1.heap.objs.size = some (seqObj "list" vs.toArray 0) := Heap.get?_push_size _ rfl
  have keep : ∀ b u, s.heap.get? b = some u → (s1.heap.push (seqObj "list" vs.toArray 0)).get? b = some u ∧ b ≠ s1.heap.objs.size := fun b u e => ⟨Heap.get?_push_of_some _ (k1 b u e), Nat.ne_of_lt (Heap.lt_size (k1 b u e))⟩
  have rd : ∀ q ∈ L1, Reads (sortingHeap (s1.heap.push (seqObj "list" vs.toArray 0)) s1.heap.objs.size vs) (.ref q.1) (encT q) [] := fun q hq => by
    have x := R.tup q (p1.mem_iff.mp hq)
    obtain ⟨o, its, n, ho, r⟩ := x
    exact reads_tup (P := P) (w := w) ⟨o, its, n, sortingHeap_old (keep _ _ ho).2 (keep _ _ ho).1, r⟩
  have eR : EachIs (fun v (q : Addr × List Int) => v = Value.ref q.1) vs L1 := by
    rw [e1]
    clear rd p1 e1 pm
    induction L1 with
    | nil => exact .nil
    | cons q r ih => exact .cons rfl ih
  have er : EachIs (fun v (q : Addr × List Int) => ∃ as, Reads (sortingHeap (s1.heap.push (seqObj "list" vs.toArray 0)) s1.heap.objs.size vs) v (encT q) as) vs L1 :=
    (each_mem eR).mono fun v q ⟨e, m⟩ => ⟨[], by rw [e]; exact rd q m⟩
  have hal := alike_encT L1
  have hne : ∀ d ∈ L1.map encT, d ≠ .none := fun d hd e => by
    obtain ⟨q, _, rfl⟩ := List.mem_map.mp hd
    cases e
  have hdp : ∀ d ∈ L1.map encT, A.in1.in1.units + d.depth < cLine := fun d hd => by
    obtain ⟨q, _, rfl⟩ := List.mem_map.mp hd
    have e : (encT q).depth = 1 := by
      show PyData.depthAll (q.2.map .int) + 1 = 1
      rw [depth_ints]
    rw [e]
    simp only [Around.in1_units]
    omega
  refine wpAny_bind (wpAny_holding (wpAny_call_entry slot_list_sort ⟨_, hoL, rfl⟩ entry_list_sort
    (list_sort_vals (s := { s1 with heap := s1.heap.push (seqObj "list" vs.toArray 0) }) (κ := dataKind (sortingHeap (s1.heap.push (seqObj "list" vs.toArray 0)) s1.heap.objs.size vs) (L1.map encT)) hoL (sorts_any (A := A.in1.in1) (s := { s1 with heap := sortingHeap (s1.heap.push (seqObj "list" vs.toArray 0)) s1.heap.objs.size vs }) (each_map (R := fun v d => ∃ as, Reads (sortingHeap (s1.heap.push (seqObj "list" vs.toArray 0)) s1.heap.objs.size vs) v d as) encT er) hal hne hdp) hvS ⟨.none, rfl, ?_⟩) (args_list_sort _)))
  have out := sortVals_data false eR er hal
  have eo : sortVals (dataKind (sortingHeap (s1.heap.push (seqObj "list" vs.toArray 0)) s1.heap.objs.size vs) (L1.map encT)) false vs vs = (L1.mergeSort (dataLe false encT)).map fun q => Value.ref q.1 := by
    generalize sortVals _ _ _ _ = o at out
    generalize L1.mergeSort _ = m at out
    induction out with
    | nil => rfl
    | cons h _ ih => rw [h, ih]; rfl
  rw [eo]
  obtain ⟨c, hc⟩ := sortedHeap_at (vs := vs) (out := ((L1.mergeSort (dataLe false encT)).map fun q => Value.ref q.1).toArray) hoL
  refine wpAny_pure ⟨_, rfl, hQ _ s1.heap.objs.size _ c (L1.mergeSort (dataLe false encT)) (fun b u e => ?_) g1 o1 hz hc rfl ((List.mergeSort_perm _ _).trans p1) ?_⟩
  · exact (sortedHeap_old (keep b u e).2 (Heap.lt_size (keep b u e).1)).trans (keep b u e).1
  · refine (sort_pairwise (sortLe_total (PyProof.Rows.listOrd itemOrd) false fun b => keyToks (encT b)) L1).imp fun {p q} h => ?_
    have h' : dataLe false encT p q = true := h
    rw [le_encT] at h'
    simpa using h'
end
end MP

set_option Elab.async false
set_option linter.all false
set_option maxRecDepth 100000
set_option autoImplicit false
set_option maxHeartbeats 4000000
/-! MS3: set(a list of whole numbers). -/
namespace MP
open PySem PySem.Spec PyProof.Rows L2
section
variable {P : Program} {w : World} {A : Around} {E : Value → Shared → Prop} {s : Shared}
def set0 (w : World) : Obj := { cls := .type "set", dict := none, data := .set #[] 0 (.fresh 0 0 (!w.params.followText "set-order")) }
theorem call_set_ints {l : Addr} {items : Array Value} (ns : List Int) {Q : Value → Shared → Prop} (hh : A.handled = none) (hl : s.heap.IsList l items) (hit : IntsAre items.toList ns) (hb : ns.length + 1 < scanBound)
    (h : ∀ (h' : Heap) (tk c : Nat), SetR w h' s.heap.objs.size (fun j => decide (j ∈ ns)) c → c ≤ ns.length → (∀ b o, s.heap.get? b = some o → h'.get? b = some o) → Q (.ref s.heap.objs.size) { s with heap := h', toks := tk }) :
    wpAny (model P w) A (call (.type "set") [.ref l]) Q E s := by
  have hisz : items.size = ns.length := by have q := IntsAre.length hit; rw [Array.length_toList] at q; exact q
  obtain ⟨c, tl, hmro⟩ := F.called_set.mro
  have hmade := F.called_set.made
  have hsub := F.called_set.sub
  refine wpAny_call (codeAny_of_tree ?_)
  show wpAny _ _ (callAny (.type "set") _) _ _ _
  refine wpAny_pure ⟨Code.quiet_builtin _ (by decide +kernel), codeAny_builtin F.entry_type_call ?_⟩
  rw [Around.under_plain (weight_type_call_type "set" [.ref l] []) rfl]
  have h1 := F.called_set.notType
  have h2 := F.called_set.canCreate
  have hct := F.typeCall_set_1 (.ref l)
  repeat (any_goals (first | assumption | wp_step))
  refine codeAny_mono (code_set_led1 (.ref l) (E := E) (Q₁ := fun obj s₁ => obj = .ref s.heap.objs.size ∧ s₁ = { s with heap := s.heap.push (set0 w) }) ⟨rfl, rfl⟩) fun r s₁ hr => ?_
  cases r with
  | error e => exact hr
  | ok fl =>
    cases fl with
    | ret obj =>
      obtain ⟨rfl, rfl⟩ := hr
      have hS : (s.heap.push (set0 w)).get? s.heap.objs.size = some (set0 w) := Heap.get?_push_size _ rfl
      have hT : Shared.TypeIs { s with heap := s.heap.push (set0 w) } (.ref s.heap.objs.size) "set" := ⟨_, hS, rfl⟩
      have hli := F.called_set.init.lookup
      have hbi := F.called_set.init.bind (.ref s.heap.objs.size)
      repeat (any_goals (first | assumption | wp_step))
      refine codeAny_mono (codeAny_call_builtin (R := wants (fun r s₂ => r = .none ∧ ∃ h' tk c, s₂ = { s with heap := h', toks := tk } ∧ SetR w h' s.heap.objs.size (fun j => decide (j ∈ ns)) c ∧ c ≤ ns.length ∧
          (∀ b o, s.heap.get? b = some o → h'.get? b = some o)) E) F.called_set.init.plain F.entry_set_init (check_set_init_1 hT ?_)) fun r₂ s₂ hr₂ => ?_
      · obtain ⟨ol, hol, hcl, nl, hdl⟩ := hl
        obtain ⟨ocls, odict, odata, oslots⟩ := ol
        simp only at hcl hdl
        subst hcl; subst hdl
        have hol' : (s.heap.push (set0 w)).get? l = some { cls := .type "list", dict := odict, data := .seq items nl, slots := oslots } := Heap.get?_push_of_some _ hol
        have hsls := F.sub_list_set
        have hslf := F.sub_list_frozenset
        have hne : (Value.type "list" == Value.type "dict") = false := by decide
        have hl1 : (s.heap.push (set0 w)).IsList l items := ⟨_, hol', rfl, nl, rfl⟩
        unfold Builtin.«set.__init__» noKeywords Builtin.Frozenset.updateFrom
        generalize hPI : pyIter = PI
        wp_walk
        subst hPI
        refine wpAny_pyIter_list hl1 ?_
        refine wpAny_bind (wpAny_runValue ?_)
        have hlS : l < s.heap.objs.size := Heap.lt_size hol
        have hh3 : A.in1.in1.in1.handled = none := by simp [hh]
        have hz1 : (s.heap.push (set0 w)).objs.size = s.heap.objs.size + 1 := Heap.size_push ..
        have hneI : l ≠ (s.heap.push (set0 w)).objs.size := by
          rw [hz1]; exact Nat.ne_of_lt (Nat.lt_succ_of_lt hlS)
        have hSf : s.heap.objs.size ∉ [(s.heap.push (set0 w)).objs.size, l] := by
          rw [hz1]; simp only [List.mem_cons, List.mem_singleton, List.not_mem_nil, or_false, not_or]
          exact ⟨Nat.ne_of_lt (Nat.lt_succ_self _), Nat.ne_of_gt hlS⟩
        have hval : ∀ (i : Nat) (v : Value), items[i]? = some v → ∃ k t, ns[i]? = some k ∧ v = .int k t := fun i v hv => by
          have hi : i < ns.length := by rw [← hisz]; exact (Array.getElem?_eq_some_iff.mp hv).1
          obtain ⟨t, e⟩ := PyProof.Rows.IntsAre.int_at hit i v (by rw [Array.getElem?_toList]; exact hv)
          refine ⟨ns[i], t, List.getElem?_eq_getElem hi, ?_⟩
          rw [e, List.getD_eq_getElem?_getD, List.getElem?_eq_getElem hi] <;> rfl
        refine set_update_ints ((Walks.list hh3 _ l hneI items).toS) s.heap.objs.size
          hSf ns hisz hb hval (items.size - 0) 0 _ (by omega) (Nat.zero_le _)
          ⟨⟨_, Heap.get?_push_size _ rfl, rfl, rfl⟩, (hl1.push _)⟩ ?hS0 ?hR
        case hS0 =>
          have hget : ((s.heap.push (set0 w)).push { cls := .type "list_iterator", data := .fields #[.ref l, .int 0 0] }).get? s.heap.objs.size = some (set0 w) := Heap.get?_push_of_some _ hS
          exact ⟨0, Nat.le_refl 0, setR_new_at hget⟩
        case hR =>
          intro s' c' hm hc' hS'
          obtain ⟨h', g2, d', tk', os'⟩ := s'
          have eg : g2 = s.gens := hm.gens
          have ed : d' = s.drawn := hm.drawn
          have eo : os' = s.os := hm.os
          subst eg; subst ed; subst eo
          show wpAny _ _ _ _ _ _
          refine wpAny_pure ?_
          show wpAny _ _ (ret Value.none) _ _ _
          rw [hisz] at hc'
          refine wpAny_pure ⟨rfl, h', tk', c', rfl, hS', hc', fun b o e => ?_⟩
          have hb0 : b < s.heap.objs.size := Heap.lt_size e
          have hb1 : b ≠ s.heap.objs.size := Nat.ne_of_lt hb0
          have hb2 : b ≠ (s.heap.push (set0 w)).objs.size := by
            rw [hz1]; exact Nat.ne_of_lt (Nat.lt_succ_of_lt hb0)
          exact hm.heap b o (by simp only [List.mem_cons, List.mem_singleton, List.not_mem_nil, or_false, not_or]; exact ⟨hb1, hb2⟩) (Heap.get?_push_of_some _ (Heap.get?_push_of_some _ e))
      · cases r₂ with
        | error e => exact hr₂
        | ok fl₂ =>
          cases fl₂ with
          | ret r =>
            obtain ⟨rfl, h', tk, c, rfl, hS', hc', hk'⟩ := hr₂
            repeat (any_goals (first | assumption | wp_step))
            exact h _ _ _ hS' hc' hk'
          | _ => exact hr₂.elim
    | _ => exact hr.elim
end
end MP

set_option Elab.async false
set_option linter.all false
set_option maxRecDepth 100000
set_option autoImplicit false
/-! MS4: the calls of set and sorted. -/
namespace MP
open PySem PySem.Spec PyProof.Rows L2
/-! sortBy -/
section
variable {α : Type} {lt : α → α → Bool}
structure Lin (lt : α → α → Bool) : Prop where
  irr : ∀ a, lt a a = false
  tr : ∀ a b c, lt a b = true → lt b c = true → lt a c = true
  tri : ∀ a b, lt a b = false → lt b a = false → a = b
theorem insBy_mem (h : Lin lt) (x : α) : ∀ (l : List α) (y : α), y ∈ insBy lt x l ↔ y = x ∨ y ∈ l
  | [], y => by simp [insBy]
  | z :: r, y => by
    unfold insBy
    by_cases h1 : lt x z = true
    · rw [if_pos h1]; simp
    · rw [if_neg h1]
      by_cases h2 : lt z x = true
      · rw [if_pos h2, List.mem_cons, insBy_mem h x r y, List.mem_cons]
        constructor
        · rintro (q | q | q)
          · exact .inr (.inl q)
          · exact .inl q
          · exact .inr (.inr q)
        · rintro (q | q | q)
          · exact .inr (.inl q)
          · exact .inl q
          · exact .inr (.inr q)
      · rw [if_neg h2]
        have e : x = z := h.tri x z (by simpa using h1) (by simpa using h2)
        subst e
        simp
theorem insBy_sorted (h : Lin lt) (x : α) : ∀ (l : List α), l.Pairwise (fun a b => lt a b = true) → (insBy lt x l).Pairwise (fun a b => lt a b = true)
  | [], _ => by simp [insBy]
  | z :: r, p => by
    obtain ⟨p1, p2⟩ := List.pairwise_cons.mp p
    unfold insBy
    by_cases h1 : lt x z = true
    · rw [if_pos h1]
      refine List.pairwise_cons.mpr ⟨fun y m => ?_, p⟩
      rcases List.mem_cons.mp m with e | m
      · rw [e]; exact h1
      · exact h.tr _ _ _ h1 (p1 y m)
    · rw [if_neg h1]
      by_cases h2 : lt z x = true
      · rw [if_pos h2]
        refine List.pairwise_cons.mpr ⟨fun y m => ?_, insBy_sorted h x r p2⟩
        rcases (insBy_mem h x r y).mp m with e | m
        · rw [e]; exact h2
        · exact p1 y m
      · rw [if_neg h2]; exact p
theorem sortBy_mem (h : Lin lt) : ∀ (l : List α) (y : α), y ∈ sortBy lt l ↔ y ∈ l
  | [], y => by simp [sortBy]
  | x :: r, y => by
    show y ∈ insBy lt x (sortBy lt r) ↔ _
    rw [insBy_mem h, sortBy_mem h r, List.mem_cons]
theorem sortBy_sorted (h : Lin lt) : ∀ (l : List α), (sortBy lt l).Pairwise (fun a b => lt a b = true)
  | [] => .nil
  | x :: r => insBy_sorted h x _ (sortBy_sorted h r)
theorem sorted_uniq (h : Lin lt) : ∀ l m : List α, l.Pairwise (fun a b => lt a b = true) → m.Pairwise (fun a b => lt a b = true) → (∀ x, x ∈ l ↔ x ∈ m) → l = m
  | [], [], _, _, _ => rfl
  | [], y :: m, _, _, e => absurd ((e y).mpr (List.mem_cons_self ..)) (by simp)
  | x :: l, [], _, _, e => absurd ((e x).mp (List.mem_cons_self ..)) (by simp)
  | x :: l, y :: m, p, q, e => by
    obtain ⟨p1, p2⟩ := List.pairwise_cons.mp p
    obtain ⟨q1, q2⟩ := List.pairwise_cons.mp q
    have exy : x = y := by
      rcases List.mem_cons.mp ((e x).mp (List.mem_cons_self ..)) with c | c
      · exact c
      · rcases List.mem_cons.mp ((e y).mpr (List.mem_cons_self ..)) with d | d
        · exact d.symm
        · have := h.tr _ _ _ (q1 x c) (p1 y d)
          rw [h.irr] at this; cases this
    subst exy
    rw [sorted_uniq h l m p2 q2 fun z => ?_]
    have hz := e z
    simp only [List.mem_cons] at hz
    constructor
    · intro hm
      rcases hz.mp (.inr hm) with c | c
      · subst c; have := p1 z hm; rw [h.irr] at this; cases this
      · exact c
    · intro hm
      rcases hz.mpr (.inr hm) with c | c
      · subst c; have := q1 z hm; rw [h.irr] at this; cases this
      · exact c
theorem sortBy_uniq (h : Lin lt) {l m : List α} (p : m.Pairwise (fun a b => lt a b = true)) (e : ∀ x, x ∈ m ↔ x ∈ l) : m = sortBy lt l :=
  sorted_uniq h _ _ p (sortBy_sorted h l) fun x => (e x).trans (sortBy_mem h l x).symm
end
theorem lin_I : Lin ltI := ⟨fun a => by simp [ltI], fun a b c h1 h2 => by simp [ltI] at *; omega, fun a b h1 h2 => by simp [ltI] at *; omega⟩
theorem lin_T : Lin ltT := ⟨fun a => by simp [ltT], fun a b c h1 h2 => by
  simp only [ltT, decide_eq_true_eq] at *
  exact List.lt_trans h1 h2, fun a b h1 h2 => by
  simp only [ltT, decide_eq_false_iff_not, List.not_lt] at *
  exact List.le_antisymm h2 h1⟩
section
variable {X : Cx}
def rSetA (K : PySem.W.Frag) (P : Program) (w : World) : List V → Hp → VK → Prop := fun xs H Q =>
  (∃ (l : Addr) (ns : List Int), xs = [V.ref l] ∧ SqL K H l (ns.map V.int) ∧ ns.length < 64 ∧ ∀ a n, H a = none → n ≤ ns.length → Q (.ref a) (upd H a (SetO w a (fun j => decide (j ∈ ns)) n))) ∨ rSetOfT K P w xs H Q
theorem cr_setA (hc : X.calm = true) (hu : X.A.units + 64 < cLine) : CallR X (.type "set") (rSetA X.K X.prog X.w) := by
  intro pins s σ H xs us Q I r h
  rcases h with ⟨l, ns, rfl, hl, hf, q⟩ | h
  · rw [Vals.ref1 r]
    obtain ⟨its, rv, pl, hz⟩ := I.list hl
    have hn : H s.heap.objs.size = none := I.hok.fresh (Nat.le_refl _)
    refine call_set_ints (P := X.prog) (w := X.w) ns (I.ok.hd hc) pl.isList (by simpa using rv.ints) (by unfold scanBound; omega) fun h' tk c R hcn k => ?_
    exact ⟨.ref s.heap.objs.size, upd H s.heap.objs.size (SetO X.w s.heap.objs.size (fun j => decide (j ∈ ns)) c), I.laid (t' := tk) k (Nat.le_refl _) (setO_new R), rfl, q _ c hn hcn⟩
  · exact cr_setOfT hc hu pins s σ H xs us Q I r h
def rSortD (K : PySem.W.Frag) (P : Program) (w : World) : List V → Hp → VK → Prop := fun vs H Q => ∃ (a : Addr) (L : List (Addr × List Int)), vs = [V.ref a] ∧ H a = some (SetTO P w a L) ∧ (∀ p ∈ L, SqT K H p.1 (p.2.map V.int)) ∧
  ∀ (L' : List (Addr × List Int)) (p : Addr), L'.Perm L → (L'.map (·.2)).Nodup → L'.Pairwise (fun q r => ¬ r.2 < q.2) → H p = none → Q (.ref p) (upd H p (.lst (L'.map fun q => V.ref q.1)))
theorem cr_sortD (hc : X.calm = true) (hu : X.A.units + 5 < cLine) : CallR X (.builtin "sorted") (rSortD X.K X.prog X.w) := by
  intro pins s σ H vs us Q I r h
  obtain ⟨a, L, rfl, ha, hk, q⟩ := h
  have R0 : SetT0 X.prog X.w s.heap a L := (I.hok a _ ha).1
  obtain ⟨es, ep, t, R⟩ := R0.full fun p hp => I.isT (hk p hp)
  rw [Vals.ref1 r]
  refine sorted_setD R (I.ok.hd hc) hu fun s' p out c L' k g o hp hg hout pm pw => ?_
  have hfew : L'.length < 64 := by rw [pm.length_eq]; exact R.few
  have hlen : (L'.map fun q => V.ref q.1).length ≤ sizeLine := by rw [List.length_map, sizeLine_eq]; omega
  have hn : H p = none := I.hok.fresh hp
  have hv : Vals (L'.map fun q => V.ref q.1) out.toList := by rw [hout]; exact vals_of_refs L'
  have J : Inv X pins σ (upd H p (.lst (L'.map fun q => V.ref q.1))) { s with heap := s'.heap, gens := s'.gens, drawn := s'.drawn, toks := s'.toks } :=
    I.call (ch := []) (Un.laid k hp hn) (I.hok.laid k hp ⟨hlen, out.toList, c, hv, hg⟩) (by rw [g]; exact I.bare) (fun _ z => nomatch z)
  have e : s' = { s with heap := s'.heap, gens := s'.gens, drawn := s'.drawn, toks := s'.toks } := by
    cases s'
    cases s
    cases o
    rfl
  rw [e]
  exact ⟨.ref p, _, J, rfl, q L' p pm (pm.map _ |>.nodup_iff.mpr R.nd) pw hn⟩
def rSortA (K : PySem.W.Frag) (P : Program) (w : World) : List V → Hp → VK → Prop := fun vs H Q => rSortedSet w vs H Q ∨ rSortD K P w vs H Q
theorem cr_sortA (hc : X.calm = true) (hu : X.A.units + 5 < cLine) : CallR X (.builtin "sorted") (rSortA X.K X.prog X.w) := by
  intro pins s σ H vs us Q I r h
  rcases h with h | h
  · exact cr_sortedSet hc pins s σ H vs us Q I r h
  · exact cr_sortD hc hu pins s σ H vs us Q I r h
end
section
variable {K : PySem.W.Frag} {ρ : List Addr} {H : Hp}
theorem Rls.of_ints : ∀ ns : List Int, Rls K ρ H (ns.map P.int) (ns.map V.int)
  | [] => .nil
  | n :: ns => .cons (.int n) (Rls.of_ints ns)
theorem P.ints_map : ∀ {l : List P} {ns : List Int}, P.ints? l = some ns → l = ns.map P.int
  | [], _, e => by cases e; rfl
  | p :: l, ns, e => by
    cases p with
    | int i =>
      have e' : (P.ints? l).map (i :: ·) = some ns := e
      obtain ⟨ms, q, rfl⟩ := Option.map_eq_some_iff.mp e'
      rw [P.ints_map q]; rfl
    | _ => cases e
/-- tuples of ints with their addresses -/
theorem Rls.tups : ∀ {l : List P} {vs : List V} {ts : List (List Int)}, Rls K ρ H l vs → P.tups? l = some ts → ∃ ks : List (Addr × List Int), vs = ks.map (fun p => V.ref p.1) ∧ ts = ks.map (·.2) ∧ ∀ p ∈ ks, SqT K H p.1 (p.2.map V.int)
  | _, _, _, .nil, e => by cases e; exact ⟨[], rfl, rfl, fun p m => absurd m (by simp)⟩
  | _, _, ts, .cons (p := p) (l := l) h r, e => by
    cases p with
    | tup t =>
      have e' : ((P.ints? t).bind fun ns => (P.tups? l).map (ns :: ·)) = some ts := e
      obtain ⟨ns, e1, e2⟩ := Option.bind_eq_some_iff.mp e'
      obtain ⟨us, e3, rfl⟩ := Option.map_eq_some_iff.mp e2
      obtain ⟨ks, h1, h2, h3⟩ := Rls.tups r e3
      cases h with
      | @tup a ws _ hs hr =>
        have hw := Rls.ints hr e1
        subst hw
        refine ⟨(a, ns) :: ks, by rw [h1]; rfl, by rw [h2]; rfl, fun p m => ?_⟩
        rcases List.mem_cons.mp m with q | q
        · rw [q]; exact hs
        · exact h3 p q
    | _ => cases e
theorem Rls.of_tups : ∀ {L : List (Addr × List Int)}, (∀ p ∈ L, SqT K H p.1 (p.2.map V.int)) → Rls K ρ H ((L.map (·.2)).map fun t => P.tup (t.map P.int)) (L.map fun q => V.ref q.1)
  | [], _ => .nil
  | q :: L, h => .cons (.tup (h q (List.mem_cons_self ..)) (Rls.of_ints _)) (Rls.of_tups fun p m => h p (List.mem_cons_of_mem _ m))
end
end MP

set_option Elab.async false
set_option linter.all false
set_option maxRecDepth 100000
set_option autoImplicit false
/-! MP10: new lists, append, o[i] = e, o.f = e, raise, try. -/
namespace MP
open PySem PySem.Spec PyProof.Rows L2 C8

section
variable {G : Gd} {δ ρ ρ' : List Addr} {H H' : Hp} {p : Addr}
theorem ban_shift (G : Gd) (δ ρ : List Addr) (p : Addr) : (G.dl δ).ban (ρ ++ [p]) = (G.dl (p :: δ)).ban ρ := by
  show (ρ ++ [p]) ++ δ = ρ ++ p :: δ
  rw [List.append_assoc]; rfl
theorem RlW.shift {w : W} {v : V} (r : RlW (G.dl (p :: δ)) ρ H w v) : RlW (G.dl δ) (ρ ++ [p]) H w v := by
  cases w with
  | p x => show Rl G.K ((G.dl δ).ban (ρ ++ [p])) H x v; rw [ban_shift]; exact r
  | ref n =>
    obtain ⟨a, h, e⟩ := r
    refine ⟨a, ?_, e⟩
    rw [List.getElem?_append_left (by
      rcases Nat.lt_or_ge n ρ.length with q | q
      · exact q
      · rw [List.getElem?_eq_none q] at h; cases h)]
    exact h
  | scr l =>
    obtain ⟨a, vs, e, h, r⟩ := r
    refine ⟨a, vs, e, h, ?_⟩
    show Rls G.K ((G.dl δ).ban (ρ ++ [p])) H l vs
    rw [ban_shift]; exact r
theorem RlF.shift {ws : List (Str × W)} {vs : List (Str × V)} (r : RlF (G.dl (p :: δ)) ρ H ws vs) : RlF (G.dl δ) (ρ ++ [p]) H ws vs := by
  induction r with
  | nil => exact .nil
  | cons h r ih => exact .cons h.shift ih
/-- the list that was made is live now -/
theorem StoOk.live {S : Sto} {l : List P} {vs : List V} (so : StoOk (G.dl (p :: δ)) ρ H S) (e : H p = some (.lst vs)) (r : Rls G.K ((G.dl (p :: δ)).ban ρ) H l vs) : StoOk (G.dl δ) (ρ ++ [p]) H (S ++ [.lst l]) := by
  refine ⟨by rw [List.length_append, List.length_append, so.len]; rfl, by rw [ban_shift]; exact so.nd, fun i o b e1 e2 => ?_, fun a m => so.dl a (List.mem_cons_of_mem _ m)⟩
  rcases Nat.lt_or_ge i S.length with q | q
  · rw [List.getElem?_append_left q] at e1
    rw [List.getElem?_append_left (by rw [← so.len]; exact q)] at e2
    have h := so.ob i o b e1 e2
    cases o with
    | lst l =>
      obtain ⟨vs, e, r⟩ := h
      refine ⟨vs, e, ?_⟩
      show Rls G.K ((G.dl δ).ban (ρ ++ [p])) H l vs
      rw [ban_shift]; exact r
    | ins c fs => obtain ⟨C, dx, fv, c1, e, r⟩ := h; exact ⟨C, dx, fv, c1, e, r.shift⟩
  · rw [List.getElem?_append_right q] at e1
    rw [List.getElem?_append_right (by rw [← so.len]; exact q), ← so.len] at e2
    cases z : i - S.length with
    | succ j => rw [z] at e1; simp at e1
    | zero =>
      rw [z] at e1 e2
      simp at e1 e2
      subst e1 e2
      refine ⟨vs, e, ?_⟩
      show Rls G.K ((G.dl δ).ban (ρ ++ [p])) H l vs
      rw [ban_shift]; exact r
theorem gro_live (g : Gro ρ H ρ' H') (hp : H p = none) : Gro ρ H (ρ' ++ [p]) H' := ⟨g.ext, fun a m => by
  rcases List.mem_append.mp m with q | q
  · exact g.new a q
  · rw [List.mem_singleton.mp q]; exact .inr hp, by
  obtain ⟨n, rfl⟩ := g.at_
  exact ⟨n ++ [p], by simp⟩⟩
/-- a live object is written -/
theorem gro_wr {a : Addr} {u o : HO} (ha : a ∈ ρ) (h : H a = some o) (nt : ∀ xs, o ≠ .tup xs) (nf : ∀ x y, o ≠ .frz x y) : Gro ρ H ρ (upd H a u) := ⟨⟨fun b x n e => by
    rw [upd_ne fun z => n (by rw [z]; exact ha)]; exact e, fun b xs e => by rw [upd_ne fun z => by rw [z, h] at e; exact nt xs (Option.some.inj e)]; exact e,
    fun b x y e => by rw [upd_ne fun z => by rw [z, h] at e; exact nf x y (Option.some.inj e)]; exact e, fun b q => by
      by_cases z : b = a
      · rw [z, upd_same]; simp
      · rw [upd_ne z]; exact q⟩, fun b m => .inl m, [], by simp⟩
theorem StoOk.wr {S : Sto} {n : Nat} {a : Addr} {u o : HO} {x : Ob} (so : StoOk G ρ H S) (hn : ρ[n]? = some a) (g : Gro ρ H ρ (upd H a u)) (h : ObR G ρ (upd H a u) a x) : StoOk G ρ (upd H a u) (S.set n x) := by
  refine ⟨by rw [List.length_set, so.len], so.nd, fun i y b e1 e2 => ?_, fun b m => g.ext.there b (so.dl b m)⟩
  rw [List.getElem?_set] at e1
  by_cases hi : n = i
  · subst hi
    rw [hn] at e2
    cases e2
    rw [if_pos rfl] at e1
    split at e1
    · cases e1; exact h
    · cases e1
  · rw [if_neg hi] at e1
    have q := so.ob i y b e1 e2
    have nb : b ≠ a := fun z => by
      subst z
      have nd : ρ.Nodup := (List.nodup_append.mp so.nd).1
      obtain ⟨l1, q1⟩ := List.getElem?_eq_some_iff.mp hn
      obtain ⟨l2, q2⟩ := List.getElem?_eq_some_iff.mp e2
      exact hi ((List.getElem?_inj l1 nd).mp (hn.trans e2.symm))
    cases y with
    | lst l => obtain ⟨vs, e, r⟩ := q; exact ⟨vs, by rw [upd_ne nb]; exact e, Rls.go (g.g G) _ _ r⟩
    | ins c fs => obtain ⟨C, dx, fv, c1, e, r⟩ := q; exact ⟨C, dx, fv, c1, by rw [upd_ne nb]; exact e, r.go g⟩
end
section
variable {X : Cx} {G : Gd} {C : Cl} {Wx : WX} {pos : Pos} {e o tg : Expr} {me mo mi : ME} {n : Nat} {T : Tb}
/-! new lists -/
theorem sn_lst {es : List Expr} {mes : MEs} (h : PA X es (tEs G C Wx mes)) : PE X (.List es pos) (tEn G C Wx (.lst mes)) :=
  (pe_lst h).weak fun σ H Q ⟨δ, ρ, L, S, lo, so, g⟩ => by
    unfold ev at g
    refine ⟨δ, ρ, L, S, lo, so, g.step fun ws S1 ρ1 H1 us g1 so1 r1 g => ?_⟩
    cases z : (pures S1 ws).bind fun l => (cut sizeLine l).map fun l => W.p (.lst l) with
    | none => rw [z] at g; exact g.elim
    | some w =>
      rw [z] at g
      obtain ⟨l, e1, e⟩ := Option.bind_eq_some_iff.mp z
      obtain ⟨m, e2, rfl⟩ := Option.map_eq_some_iff.mp e
      obtain ⟨z, rfl⟩ := cut_some e2
      have rl := r1.pures e1
      refine ⟨by rw [← rl.length]; exact z, fun p hp => ?_⟩
      have k : Kp H1 (upd H1 p (.lst us)) := Kp.laid _ hp
      exact g ρ1 _ p us (k.gro ρ1) (so1.in_ hp k (by rw [upd_same]; simp)) hp upd_same (Rls.go (grow_in (k.gro ρ1) hp) _ _ rl)
/-- list(a), new -/
theorem sn_lof (hK : X.K = G.K) {x : Str} {p : Pos} (hg : Gl X x) (hm : X.mg x = none) (hv : bootBuiltins x = some (.type "list")) (ha : PE X e (tEv G C Wx me)) (hn : nst e = true)
    (hx : x ≠ "__name__") (hdb : (x == ("__debug__" : Str)) = false) : PE X (.Call (.Name x p) [e] [] pos) (tEn G C Wx (.lof me)) :=
  (pe_callTy call_list_of hg hm hv (pa_cons ha pa_nil (star_cons hn)) hx hdb (star_cons hn) rfl).weak fun σ H Q ⟨δ, ρ, L, S, lo, so, g⟩ => by
    unfold ev at g
    refine ⟨δ, ρ, L, S, lo, so, g.step fun w S1 ρ1 H1 u g1 so1 r1 g => ?_⟩
    cases z : (rdL S1 w).map fun l => W.p (.lst l) with
    | none => rw [z] at g; exact g.elim
    | some w' =>
      rw [z] at g
      obtain ⟨l, e1, rfl⟩ := Option.map_eq_some_iff.mp z
      have end_ : ∀ {vs : List V}, Rls G.K ((G.dl δ).ban ρ1) H1 l vs → ∀ q, H1 q = none → Q (.ref q) (upd H1 q (.lst vs)) := fun {vs} rl q hq => by
        have k : Kp H1 (upd H1 q (.lst vs)) := Kp.laid _ hq
        exact g ρ1 _ q vs (k.gro ρ1) (so1.in_ hq k (by rw [upd_same]; simp)) hq upd_same (Rls.go (grow_in (k.gro ρ1) hq) _ _ rl)
      have pl : ∀ p, rd S1 w = some p → P.items? p = some l → ∃ q ys, [u] = [V.ref q] ∧ (SqL X.K H1 q ys ∨ SqT X.K H1 q ys) ∧ ∀ l, H1 l = none → Q (.ref l) (upd H1 l (.lst ys)) := fun p e1 e2 => by
        have r := r1.rr so1 e1
        cases p with
        | tup m =>
          cases e2
          obtain ⟨a, vs, rfl, h1, r⟩ := r.tup
          exact ⟨a, vs, rfl, .inr (hK ▸ h1), end_ r⟩
        | lst m =>
          cases e2
          obtain ⟨a, vs, rfl, h1, r⟩ := r.lst
          exact ⟨a, vs, rfl, .inl (SqL.of h1), end_ r⟩
        | _ => cases e2
      cases w with
      | scr m =>
        cases e1
        obtain ⟨a, vs, rfl, h1, r⟩ := r1
        exact ⟨a, vs, rfl, .inl (hK ▸ h1.sq), end_ r⟩
      | p x =>
        obtain ⟨p, e1, e2⟩ := Option.bind_eq_some_iff.mp (show (rd S1 (.p x)).bind P.items? = some l from e1)
        exact pl p e1 e2
      | ref n =>
        obtain ⟨p, e1, e2⟩ := Option.bind_eq_some_iff.mp (show (rd S1 (.ref n)).bind P.items? = some l from e1)
        exact pl p e1 e2
theorem new_of {D : Ends} {σ : L2.St} {H : Hp} {i : Nat} (h : tEx G Wx (exs C (.new i me)) D σ H) : tEn G C Wx me σ H fun x H1 => gName i x σ H1 D.nx := by
  obtain ⟨δ, ρ, L, S, lo, so, x⟩ := h
  refine ⟨δ, ρ, L, S, lo, so, ?_⟩
  unfold exs at x
  cases z : ev C me L S with
  | bad => rw [z] at x; exact x.elim
  | ex e S1 => rw [z] at x; exact fun ρ' H' c d g so' q => x ρ' H' g so' σ c d (lo.go g) q
  | ok w S1 =>
    rw [z] at x
    cases w with
    | ref _ => exact x.elim
    | scr _ => exact x.elim
    | p q =>
      cases q with
      | lst l =>
        intro ρ' H' p vs g so' hp e r
        have gr := gro_live g hp
        have lo' : LocOk (G.dl δ) (ρ' ++ [p]) H' L σ := ⟨lo.len, fun j w e => by
          obtain ⟨v, e1, r⟩ := lo.at_ j w e
          exact ⟨v, e1, r.go gr⟩⟩
        have hlen : S1.length = ρ'.length := so'.len
        exact x (ρ' ++ [p]) H' gr (so'.live e r) _ (lo'.set (w := .ref S1.length) ⟨p, by rw [hlen, List.getElem?_append_right (Nat.le_refl _), Nat.sub_self]; rfl, rfl⟩ i)
      | _ => exact x.elim
theorem ss_new {i : Nat} {y : Str} {py : Pos} (hN : X.N.Nodup) (hi : X.N[i]? = some y) (hx : L2.Loc X.env.scope y) (hf : X.fn y = true ∨ X.env.scope.names.lookup y = some .local) (he : PE X e (tEn G C Wx me)) (hs : swapsWithSole [.Name y py] e pos.line X.env = pure false) :
    PS X (.Assign [.Name y py] e pos) (tEx G Wx (exs C (.new i me))) := (ps_asg he (pg_name hN hi hx hf) hs rfl rfl).weak fun D σ H h => new_of h
/-- return e, a new list that stays live -/
theorem ss_retL (he : PE X e (tEn G C Wx me)) : PS X (.Return (some e) pos) (tEx G Wx (exs C (.retL me))) := (ps_ret he).weak fun D σ H ⟨δ, ρ, L, S, lo, so, x⟩ => by
  refine ⟨δ, ρ, L, S, lo, so, ?_⟩
  unfold exs at x
  cases z : ev C me L S with
  | bad => rw [z] at x; exact x.elim
  | ex e S1 => rw [z] at x; exact fun ρ' H' c d g so' q => x ρ' H' g so' σ c d (lo.go g) q
  | ok w S1 =>
    rw [z] at x
    cases w with
    | ref _ => exact x.elim
    | scr _ => exact x.elim
    | p q =>
      cases q with
      | lst l =>
        intro ρ' H' p vs g so' hp e r
        have hlen : S1.length = ρ'.length := so'.len
        exact x (ρ' ++ [p]) H' (gro_live g hp) (so'.live e r) _ ⟨p, by rw [hlen, List.getElem?_append_right (Nat.le_refl _), Nat.sub_self]; rfl, rfl⟩
      | _ => exact x.elim
theorem ss_newLc {i : Nat} {y : Str} {py : Pos} {elt iter : Expr} {ifs : List Expr} {scope : Scope} {own : List (Str × Nat)} {mi : MI} {mg : MG} {mt : MT} {spos : Pos} (hK : X.K = G.K) (hc : X.calm = true) (hN : X.N.Nodup) (hy : X.N[i]? = some y) (hyl : X.env.scope.names.lookup y = some .local)
    (hsw : swapsWith (.ListComp elt [⟨tg, iter, ifs, 0⟩] scope pos) (some (.Name y py)) spos.line X.env = pure true) (hi : PI X tg iter (tEi G C Wx mi)) (ok : BlkOk X.N X.env.scope scope own)
    (hg : ∀ (s : Shared) (H : Hp) (c : Addr) (cl : List (Str × Addr)) (fp : List Addr), PG (X.blk s H scope (compEnvC scope cl c X.env) fp) tg (gOf G.K mg))
    (ht : ∀ (s : Shared) (H : Hp) (c : Addr) (cl : List (Str × Addr)) (fp : List Addr), PTs (X.blk s H scope (compEnvC scope cl c X.env) fp) ifs (tEt G C noW mt))
    (he : ∀ (s : Shared) (H : Hp) (c : Addr) (cl : List (Str × Addr)) (fp : List Addr), PE (X.blk s H scope (compEnvC scope cl c X.env) fp) elt (tEv G C noW me))
    (hs : ∀ x, foldedSetIterable iter X.env x = pure x) (hsl : ∀ i ∈ mg.slots, i ∈ own.map (·.2)) :
    PS X (.Assign [.Name y py] (.ListComp elt [⟨tg, iter, ifs, 0⟩] scope pos) spos) (tEx G Wx (exs C (.new i (.comp (own.map (·.2)) mg mi mt me)))) :=
  (ps_setLc hc hN hy hyl hsw hi ok hg ht he hs).weak fun D σ H h => se_compN hK hc hN hi ok hg ht he hs hsl σ H _ (new_of h)
/-! writing live lists -/
theorem ref_at {ρ : List Addr} {H : Hp} {S : Sto} {δ : List Addr} {k : Nat} {v : V} {l : List P} (so : StoOk (G.dl δ) ρ H S) (r : RlW (G.dl δ) ρ H (.ref k) v) (e : S[k]? = some (.lst l)) :
    ∃ a vs, v = .ref a ∧ ρ[k]? = some a ∧ H a = some (.lst vs) ∧ Rls G.K ((G.dl δ).ban ρ) H l vs := by
  obtain ⟨a, ea, rfl⟩ := r
  obtain ⟨vs, h1, h2⟩ := so.ob k _ a e ea
  exact ⟨a, vs, rfl, ea, h1, h2⟩
theorem wr_list {D : Ends} {ρ : List Addr} {H : Hp} {S : Sto} {δ : List Addr} {L : Loc} {σ : L2.St} {k : Nat} {a : Addr} {vs ws : List V} {m : List P} (so : StoOk (G.dl δ) ρ H S) (lo : LocOk (G.dl δ) ρ H L σ) (ea : ρ[k]? = some a) (h : H a = some (.lst vs))
    (r : Rls G.K ((G.dl δ).ban ρ) H m ws) (x : Xp (G.dl δ) ρ H D Wx (some (.nx L, S.set k (.lst m)))) : D.nx σ (upd H a (.lst ws)) := by
  have g : Gro ρ H ρ (upd H a (.lst ws)) := gro_wr (List.mem_of_getElem? ea) h (fun _ q => nomatch q) (fun _ _ q => nomatch q)
  have r' := Rls.go (g.g (G.dl δ)) _ _ r
  exact x ρ _ g (so.wr (o := .lst vs) ea g (show ObR (G.dl δ) ρ _ a (.lst m) from ⟨ws, upd_same, r'⟩)) σ (lo.go g)
theorem ss_app {apos cpos : Pos} (hK : X.K = G.K) (ho : PE X o (tEv G C Wx mo)) (he : PE X e (tEv G C Wx me)) (hn : nst e = true) (hbase : attributeBase o "append" X.env (eval o X.env) = eval o X.env) (hline : (apos.endLine == cpos.line) = true) :
    PS X (.Expr (.Call (.Attribute o "append" apos) [e] [] cpos) pos) (tEx G Wx (exs C (.app mo me))) :=
  (ps_expr (pe_bm PySem.F.plainAttrs_list PySem.F.slot_list_append PySem.F.type_list_append mt_append ho (pa_cons he pa_nil (star_cons hn)) hbase (by rw [star_cons hn]; rfl) hline (star_cons hn) rfl) rfl).weak fun D σ H ⟨δ, ρ, L, S, lo, so, x⟩ => by
    unfold exs at x
    refine ⟨δ, ρ, L, S, lo, so, x.step lo fun w S1 ρ1 H1 u g1 so1 r1 lo1 x => ?_⟩
    cases w with
    | scr l => exact x.elim
    | p q => exact x.elim
    | ref k =>
      dsimp only at x
      cases z : S1[k]? with
      | none => rw [z] at x; exact x.elim
      | some ob =>
        rw [z] at x
        cases ob with
        | ins c fs => exact x.elim
        | lst l =>
          obtain ⟨a, vs, rfl, ea, h1, rl⟩ := ref_at so1 r1 z
          refine ⟨.inl ⟨rfl, vs, SqL.of h1⟩, δ, ρ1, L, S1, lo1, so1, x.step lo1 fun v S2 ρ2 H2 y g2 so2 r2 lo2 x => ?_⟩
          cases v with
          | scr l => exact x.elim
          | ref q => exact x.elim
          | p q =>
            dsimp only at x
            cases zp : pushAt S2 k q with
            | none => rw [zp] at x; exact x.elim
            | some S3 =>
              rw [zp] at x
              have zp' : (match S2[k]? with
                | some (.lst l) => if l.length < sizeLine then some (S2.set k (.lst (l ++ [q]))) else none
                | _ => none) = some S3 := zp
              cases z2 : S2[k]? with
              | none => rw [z2] at zp'; cases zp'
              | some ob =>
                rw [z2] at zp'
                cases ob with
                | ins c fs => cases zp'
                | lst m =>
                  obtain ⟨hz, rfl⟩ := ite_some zp'
                  obtain ⟨a', ws, ev, ea', h2, rm⟩ := ref_at so2 (r1.go g2) z2
                  cases ev
                  exact ⟨a, ws, y, rfl, rfl, h2, by rw [← rm.length]; exact hz, wr_list so2 lo2 ea' h2 (Rls.append rm (.cons r2 .nil)) x⟩
/-- sorted(set(a)) -/
theorem se_srt (hK : X.K = G.K) (hc : X.calm = true) (hu : X.A.units + 65 < cLine) {a : Expr} {ma : ME} {p p2 cpos : Pos} (hg : Gl X "sorted") (hm : X.mg "sorted" = none) (hg2 : Gl X "set") (hm2 : X.mg "set" = none) (ha : PE X a (tEv G C Wx ma)) (hn : nst a = true) :
    PE X (.Call (.Name "sorted" p) [.Call (.Name "set" p2) [a] [] cpos] [] pos) (tEv G C Wx (.srt ma)) :=
  (pe_callB (cr_sortA hc (by omega)) hg hm (by decide +kernel) (pa_cons (pe_callTy (cr_setA hc (by omega)) hg2 hm2 PyProof.Rows.boot_set (pa_cons ha pa_nil (star_cons hn)) (by decide) (by decide) (star_cons hn) rfl) pa_nil (star_cons rfl)) (by decide) (by decide) (star_cons rfl) rfl).weak fun σ H Q ⟨δ, ρ, L, S, lo, so, x⟩ => by
    unfold ev at x
    refine ⟨δ, ρ, L, S, lo, so, x.step fun w S1 ρ1 H1 u g1 so1 r1 x => ?_⟩
    obtain ⟨w', e, x⟩ := x.ofO
    obtain ⟨q, e1, e⟩ := Option.bind_eq_some_iff.mp e
    obtain ⟨r, e2, rfl⟩ := Option.map_eq_some_iff.mp e
    have rq := r1.rr so1 e1
    have gv := Gives.of so1 x
    have th := so1.there
    cases q with
    | lst l =>
      obtain ⟨a, vs, rfl, ha, rl⟩ := rq.lst
      have hlen := rl.length
      have h64 : l.length < 64 := Classical.byContradiction fun z => by
        have q : (if l.length < 64 then _ else none) = some r := e2
        rw [if_neg z] at q; cases q
      have e2 : (match P.ints? l with
        | some ns => some (P.lst ((sortBy ltI ns).map .int))
        | none => (P.tups? l).map fun ts => .lst ((sortBy ltT ts).map fun t => .tup (t.map .int))) = some r := by
        have q : (if l.length < 64 then _ else none) = some r := e2
        rw [if_pos h64] at q
        exact q
      cases hi : P.ints? l with
      | some ns =>
        rw [hi] at e2
        cases e2
        have hv := Rls.ints rl hi
        subst hv
        rw [List.length_map] at hlen
        refine .inl ⟨a, ns, rfl, SqL.of ha, by omega, fun b n hb hn => .inl ⟨b, _, n, rfl, upd_same, by omega, fun ms p hp hm _ hq => ?_⟩⟩
        have em : ms = sortBy ltI ns := sortBy_uniq lin_I (hp.imp fun h => decide_eq_true h) fun x => by rw [hm x]; simp
        rw [em]
        refine gv _ _ ((Kp.laid _ hb).trans (Kp.laid _ hq)) (.lst (fun hm => th _ hm ?_) upd_same (Rls.of_ints _))
        cases z : H1 p with
        | none => rfl
        | some o => rw [Kp.laid _ hb _ _ z] at hq; cases hq
      | none =>
        rw [hi] at e2
        obtain ⟨ts, e3, rfl⟩ := Option.map_eq_some_iff.mp e2
        obtain ⟨ks, rfl, rfl, hk⟩ := Rls.tups rl e3
        rw [List.length_map] at hlen
        refine .inr ⟨a, ks, rfl, SqL.of ha, fun p m => hK ▸ hk p m, by omega, fun b L hb h1 h2 => .inr ⟨b, L, rfl, upd_same, fun p m => SqT.go (Kp.laid _ hb |>.ext []) (hK ▸ hk p (h1 p m)), fun L' p pm nd pw hq => ?_⟩⟩
        have pw2 : (L'.map (·.2)).Pairwise fun a b => ltT a b = true := by
          have nd' : L'.Pairwise fun a b => a.2 ≠ b.2 := List.pairwise_map.mp nd
          refine List.pairwise_map.mpr ((pw.and nd').imp fun {a b} h => ?_)
          refine Classical.byContradiction fun z => h.2 (lin_T.tri a.2 b.2 (by simpa using z) (decide_eq_false h.1))
        have em : L'.map (·.2) = sortBy ltT (ks.map (·.2)) := sortBy_uniq lin_T pw2 fun x => by
          constructor
          · intro m
            obtain ⟨q, hq, rfl⟩ := List.mem_map.mp m
            exact List.mem_map.mpr ⟨q, h1 q (pm.mem_iff.mp hq), rfl⟩
          · intro m
            obtain ⟨q, hq, rfl⟩ := List.mem_map.mp m
            obtain ⟨q', hq', e⟩ := List.mem_map.mp (h2 q hq)
            exact List.mem_map.mpr ⟨q', pm.mem_iff.mpr hq', e⟩
        rw [← em] at gv
        refine gv _ _ ((Kp.laid _ hb).trans (Kp.laid _ hq)) (.lst (fun hm => th _ hm ?_) upd_same (Rls.of_tups fun q m => ?_))
        · cases z : H1 p with
          | none => rfl
          | some o => rw [Kp.laid _ hb _ _ z] at hq; cases hq
        · exact SqT.go (((Kp.laid _ hb).trans (Kp.laid _ hq)).ext []) (hk q (h1 q (pm.mem_iff.mp m)))
    | _ => cases e2
/-- o[i] = e -/
theorem ss_sub {i : Expr} {tpos : Pos} (ho : PE X o (tEv G C Wx mo)) (hi : PE X i (tEv G C Wx mi)) (he : PE X e (tEv G C Wx me)) (ha : ∀ v, assign (.Subscript o i tpos) X.env v = (do
      let ov ← holding [v] (eval o X.env)
      let iv ← holding [v, ov] (eval i X.env)
      standAt tpos
      holding [v, ov, iv] (setItem ov iv v)
      release [v, ov, iv] [])) (hs : swapsWithSole [.Subscript o i tpos] e pos.line X.env = pure false) : PS X (.Assign [.Subscript o i tpos] e pos) (tEx G Wx (exs C (.set (.sub mo mi) me))) :=
  (ps_asg he (pg_sub ho hi set_list ha) hs rfl rfl).weak fun D σ H ⟨δ, ρ, L, S, lo, so, x⟩ => by
    unfold exs at x
    refine ⟨δ, ρ, L, S, lo, so, x.step lo fun w S1 ρ1 H1 u g1 so1 r1 lo1 x => ?_⟩
    unfold exG at x
    cases w with
    | scr l => exact x.elim
    | ref q => exact x.elim
    | p q =>
      refine ⟨δ, ρ1, L, S1, lo1, so1, x.step lo1 fun w2 S2 ρ2 H2 u2 g2 so2 r2 lo2 x => ⟨δ, ρ2, L, S2, lo2, so2, x.step lo2 fun w3 S3 ρ3 H3 u3 g3 so3 r3 lo3 x => ?_⟩⟩
      cases w2 with
      | scr l => exact x.elim
      | p q => exact x.elim
      | ref k =>
        cases w3 with
        | scr l => exact x.elim
        | ref q => exact x.elim
        | p j =>
          cases j with
          | int j =>
            dsimp only at x
            cases zp : putAt S3 k j q with
            | none => rw [zp] at x; exact x.elim
            | some S4 =>
              rw [zp] at x
              have zp' : (match S3[k]? with
                | some (.lst l) => (L2.ixN l.length j).map fun jj => S3.set k (.lst (l.set jj q))
                | _ => none) = some S4 := zp
              cases z2 : S3[k]? with
              | none => rw [z2] at zp'; cases zp'
              | some ob =>
                rw [z2] at zp'
                cases ob with
                | ins c fs => cases zp'
                | lst m =>
                  obtain ⟨jj, ej, rfl⟩ := Option.map_eq_some_iff.mp zp'
                  obtain ⟨a, ws, ev, ea, h2, rm⟩ := ref_at so3 (r2.go g3) z2
                  subst ev
                  cases r3
                  exact ⟨a, ws, j, jj, rfl, rfl, h2, by rw [← rm.length]; exact ej, wr_list so3 lo3 ea h2 (Rls.set ((r1.go (g2.trans g3))) jj rm) x⟩
          | _ => exact x.elim
/-! fields -/
theorem RlF.put {ρ : List Addr} {H : Hp} {f : Str} {w : W} {v : V} (h : RlW G ρ H w v) : ∀ {ws : List (Str × W)} {vs : List (Str × V)}, RlF G ρ H ws vs → RlF G ρ H (setF f w ws) (L2.putF f v vs)
  | _, _, .nil => .cons h .nil
  | _, _, .cons (x := x) q r => by
    unfold setF L2.putF
    by_cases hx : x = f
    · rw [if_pos hx, if_pos hx]; exact .cons h r
    · rw [if_neg hx, if_neg hx]; exact .cons q (RlF.put h r)
theorem RlF.length {ρ : List Addr} {H : Hp} {ws : List (Str × W)} {vs : List (Str × V)} (r : RlF G ρ H ws vs) : ws.length = vs.length := by
  induction r with
  | nil => rfl
  | cons _ _ ih => exact congrArg (· + 1) ih
theorem putF_at {D : Ends} {ρ : List Addr} {H : Hp} {S S' : Sto} {δ : List Addr} {L : Loc} {σ : L2.St} {f : Str} {w wo : W} {v vo : V} (so : StoOk (G.dl δ) ρ H S) (lo : LocOk (G.dl δ) ρ H L σ) (r : RlW (G.dl δ) ρ H w v) (ro : RlW (G.dl δ) ρ H wo vo) (e : putF S f w wo = some S')
    (x : Xp (G.dl δ) ρ H D Wx (some (.nx L, S'))) : ∃ a c Ca dx fs, vo = .ref a ∧ clsAt S wo = some c ∧ G.ob c = some Ca ∧ H a = some (.ins Ca dx fs) ∧ fs.length < 1000 ∧ D.nx σ (upd H a (.ins Ca dx (L2.putF f v fs))) := by
  cases wo with
  | scr l => cases e
  | p q => cases e
  | ref k =>
    have e' : (match S[k]? with
      | some (.ins c fs) => if fs.length < 100 then some (S.set k (.ins c (setF f w fs))) else none
      | _ => none) = some S' := e
    cases z : S[k]? with
    | none => rw [z] at e'; cases e'
    | some ob =>
      rw [z] at e'
      cases ob with
      | lst l => cases e'
      | ins c fs =>
        obtain ⟨hz, rfl⟩ := ite_some e'
        obtain ⟨a, ea, rfl⟩ := ro
        obtain ⟨Ca, dx, fvs, h1, h2, h3⟩ := so.ob k _ a z ea
        have g : Gro ρ H ρ (upd H a (.ins Ca dx (L2.putF f v fvs))) := gro_wr (List.mem_of_getElem? ea) h2 (fun _ q => nomatch q) (fun _ _ q => nomatch q)
        refine ⟨a, c, Ca, dx, fvs, rfl, ?_, h1, h2, by rw [← h3.length]; omega, ?_⟩
        · show (match S[k]? with
            | some (.ins c _) => some c
            | _ => none) = some c
          rw [z]
        · exact x ρ _ g (so.wr (o := .ins Ca dx fvs) ea g (show ObR (G.dl δ) ρ _ a (.ins c (setF f w fs)) from ⟨Ca, dx, _, h1, upd_same, (RlF.put r h3).go g⟩)) σ (lo.go g)
theorem ss_fset {f : Str} {tpos : Pos} (hs : Has X G C n T) (hf : Fields X G f) (ho : PE X o (tEv G C Wx mo)) (he : PE X e (tEv G C Wx me)) (hsw : swapsWith e (some (.Attribute o f tpos)) pos.line X.env = pure false) :
    PS X (.Assign [.Attribute o f tpos] e pos) (tEx G Wx (exs C (.fset mo f me))) := (ps_fld ho he hsw).weak fun D σ H ⟨δ, ρ, L, S, lo, so, x⟩ => by
  unfold exs at x
  refine ⟨δ, ρ, L, S, lo, so, x.step lo fun w S1 ρ1 H1 u g1 so1 r1 lo1 x => ⟨δ, ρ1, L, S1, lo1, so1, x.step lo1 fun w2 S2 ρ2 H2 u2 g2 so2 r2 lo2 x => ?_⟩⟩
  cases z : putF S2 f w w2 with
  | none => rw [z] at x; exact x.elim
  | some S3 =>
    rw [z] at x
    obtain ⟨a, c, Ca, dx, fs, e1, e2, e3, e4, e5, q⟩ := putF_at so2 lo2 (r1.go g2) r2 z x
    exact ⟨a, Ca, dx, fs, e1, e4, hs.obj c Ca e3, hf c Ca e3, e5, q⟩
theorem ss_faug {f : Str} {tpos : Pos} (hs : Has X G C n T) (hf : Fields X G f) (ho : PE X o (tEv G C Wx mo)) (he : PE X e (tEv G C Wx me)) :
    PS X (.AugAssign (.Attribute o f tpos) .Add e pos) (tEx G Wx (exs C (.faug mo f me))) := (ps_fldaug ho he in_add).weak fun D σ H ⟨δ, ρ, L, S, lo, so, x⟩ => by
  unfold exs at x
  refine ⟨δ, ρ, L, S, lo, so, x.step lo fun w S1 ρ1 H1 u g1 so1 r1 lo1 x => ?_⟩
  split at x
  · rename_i i ei
    obtain ⟨a, c, Ca, dx, fvs, v', rfl, h1, h2, h3, h4, hc⟩ := att_at so1 r1 ei
    cases h4
    refine ⟨a, Ca, dx, fvs, .int i, rfl, h2, hs.obj c Ca h1, hf c Ca h1, h3, δ, ρ1, L, S1, lo1, so1, x.step lo1 fun w2 S2 ρ2 H2 u2 g2 so2 r2 lo2 x => ?_⟩
    cases w2 with
    | scr l => exact x.elim
    | ref q => exact x.elim
    | p q =>
      cases q with
      | int j =>
        dsimp only at x
        split at x
        · rename_i hcc
          cases z : putF S2 f (.p (.int (i + j))) w with
          | none => rw [z] at x; exact x.elim
          | some S3 =>
            rw [z] at x
            cases r2
            refine ⟨i, j, rfl, rfl, ?_⟩
            obtain ⟨a', c', Ca', dx', fs, e1, e2, e3, e4, e5, q⟩ := putF_at (v := .int (i + j)) so2 lo2 (show RlW (G.dl δ) ρ2 H2 (.p (.int (i + j))) (.int (i + j)) from .int _) (r1.go g2) z x
            cases e1
            rw [← hcc, hc] at e2
            cases e2
            rw [h1] at e3
            cases e3
            exact ⟨dx', fs, e4, e5, q⟩
        · exact x.elim
      | _ => exact x.elim
  · exact x.elim
/-! ### exceptions -/
/-- a class of exceptions with no __init__ of its own -/
def Exc1 (X : Cx) (G : Gd) (c : Str) : Prop := ∃ Ca bmB B newId initId, ExcBaseFacts B newId initId bmB ∧ PySem.W.excIn X.K Ca bmB newId = true ∧ X.mg c = some (.ref Ca) ∧ PySem.W.keepIn X.K (.ref Ca) = true ∧ Raises X (.ref Ca) ∧ G.cls c = some Ca
theorem ss_raise {c : Str} {np cpos : Pos} (hc : X.calm = true) (tk : Takes X Wx) (x1 : Exc1 X G c) (hg : Gl X c) (he : PE X e (tEv G C Wx me)) (hn : nst e = true) (hdb : (c == ("__debug__" : Str)) = false) :
    PS X (.Raise (some (.Call (.Name c np) [e] [] cpos)) none pos) (tEx G Wx (exs C (.raise c me))) := by
  obtain ⟨Ca, bmB, B, newId, initId, F, q, gC, kC, r, hcl⟩ := x1
  refine (ps_raise hc tk (SkE.pmk_own1 F q gC kC r hg he (star_cons hn) hdb)).weak fun D σ H ⟨δ, ρ, L, S, lo, so, x⟩ => ?_
  unfold exs at x
  exact ⟨δ, ρ, L, S, lo, so, x.step lo fun w S1 ρ1 H1 u g1 so1 r1 lo1 x => x ρ1 H1 (.refl _ _) so1 σ _ none lo1 ⟨Ca, hcl, rfl, .inl rfl⟩⟩
/-- what the evaluator says of classes is so -/
def SubOk (X : Cx) (G : Gd) (C : Cl) : Prop := ∀ c d b Ca Da, C.sub c d = some b → G.cls c = some Ca → G.cls d = some Da → PySem.W.exmOne X.K (.ref Ca) (.ref Da) = some b
def vOf : P → V
  | .bl b => .bl b
  | .int i => .int i
  | .str x => .str x
  | _ => .non
theorem lit_c {Y : Cx} {k : Const} {j : Nat} {q : P} {pos : Pos} (h : litC k = some q) : PE Y (.Constant k j pos) (tC (vOf q)) ∧ ∀ ρ H, Rl G.K ρ H q (vOf q) := by
  cases k with
  | none => cases h; exact ⟨pe_non, fun _ _ => .non⟩
  | bool b => cases h; exact ⟨pe_bl, fun _ _ => .bl b⟩
  | int i => cases h; exact ⟨pe_int, fun _ _ => .int i⟩
  | str x =>
    obtain ⟨hz, e⟩ := ite_some (show (if PyData.strOk x = true then some (P.str x) else none) = some q from h)
    subst e
    exact ⟨pe_str, fun _ _ => .str x hz⟩
  | _ => cases h
theorem xp_try {δ ρ : List Addr} {H : Hp} {D : Ends} {W' : WX} {r r' : XR} (x : Xp (G.dl δ) ρ H D Wx r') (h : ∀ o S, r = some (o, S) → (∀ e L, o ≠ .exc e L) → r' = r) (h0 : r = none → r' = none)
    (he : ∀ e L S, r = some (.exc e L, S) → ∀ ρ' H', Gro ρ H ρ' H' → StoOk (G.dl δ) ρ' H' S → ∀ σ cls d, LocOk (G.dl δ) ρ' H' L σ → ExR (G.dl δ) ρ' H' e cls d → W' cls d σ H') : Xp (G.dl δ) ρ H D W' r := by
  cases r with
  | none => rw [h0 rfl] at x; exact x
  | some p =>
    obtain ⟨o, S⟩ := p
    intro ρ' H' g so
    cases o with
    | exc e L => exact fun σ cls d lo ex => he e L S rfl ρ' H' g so σ cls d lo ex
    | nx L => rw [h _ _ rfl (fun _ _ q => nomatch q)] at x; exact x ρ' H' g so
    | ret w => rw [h _ _ rfl (fun _ _ q => nomatch q)] at x; exact x ρ' H' g so
    | brk L => rw [h _ _ rfl (fun _ _ q => nomatch q)] at x; exact x ρ' H' g so
    | cnt L => rw [h _ _ rfl (fun _ _ q => nomatch q)] at x; exact x ρ' H' g so
theorem ss_tryR {c : Str} {np p2 p3 pos' : Pos} {b : List Stmt} {mb : MSs} {k : Const} {j : Nat} {q : P} {Ca : Addr} (hK : X.K = G.K) (hs : X.stack = X.env :: X.outer) (hf : X.env.frame = some X.env.locals) (tk : Takes X Wx) (hcl : G.cls c = some Ca) (hc : Names X c (.ref Ca)) (sb : SubOk X G C)
    (hq : litC k = some q)
    (hb : ∀ (W : WX) (pn : List (Addr × Obj)) (xe : Value → Shared → Prop), Takes (X.tr pn xe) W → PassesOwn (model X.prog X.w) X.A X.env xe → PSs (X.tr pn xe) b (tEx G W (exss C mb))) :
    PS X (.Try b [.ExceptHandler (some (.Name c np)) none [.Return (some (.Constant k j p2)) p3] pos'] [] [] pos) (tEx G Wx (exs C (.tryR mb c q))) := by
  refine (ps_try_only (c := .ref Ca) (tb := fun W => tEx G W (exss C mb)) (ts := fun _ _ _ => tRet (tC (vOf q))) hs hf hc tk hb (fun a oe cls d pn _ _ => pss_one (ps_ret (lit_c (G := G) hq).1))).weak fun D σ H ⟨δ, ρ, L, S, lo, so, x⟩ => ?_
  unfold exs at x
  refine ⟨δ, ρ, L, S, lo, so, xp_try x ?_ ?_ ?_⟩
  · intro o S1 eq hne
    rw [eq]
    cases o with
    | exc e' L' => exact absurd rfl (hne e' L')
    | _ => rfl
  · intro e
    rw [e]
  · intro e L1 S1 er ρ' H' g so' σ' cls d lo' ex
    rw [er] at x
    dsimp only at x
    obtain ⟨Ea, h1, h2, h3⟩ := ex
    subst h2
    cases es : C.sub e.cls c with
    | none => rw [es] at x; exact x.elim
    | some v =>
      rw [es] at x
      refine ⟨v, sb _ _ _ _ _ es h1 hcl, fun hv a _ => ?_, fun hv => ?_⟩
      · subst hv
        exact x ρ' H' g so' _ ((lit_c (G := G) (Y := X) (pos := pos) (j := 0) hq).2 _ _)
      · subst hv
        exact x ρ' H' g so' σ' _ d lo' ⟨Ea, h1, rfl, h3⟩
end
end MP

set_option Elab.async false
set_option linter.all false
set_option maxRecDepth 100000
set_option autoImplicit false
/-! MP11: from the program's text. -/
namespace MP
open PySem PySem.Spec PyProof.Rows L2 C8

/-- what the text's names are -/
structure Kc where
  con : Str → Option P
  isFn : Str → Bool
  isMk : Str → Bool
  atts : List Str
  exc : List Str
  cat : List Str
structure Kt where
  c : Kc
  T : Tb
def okN (x : Str) : Bool := !(x == ("__debug__" : Str)) && !(x == ("__classdict__" : Str)) && !decide (x = "__name__")
def visB (sc : Scope) (x : Str) : Bool := match sc.names.lookup x with
  | some .local => true | some .cell => true | some .free => true | _ => false
def locB (fr : Bool) (sc : Scope) (x : Str) : Bool := match sc.names.lookup x with
  | some .local => true | some .cell => fr | _ => false
def gliB (sc : Scope) (x : Str) : Bool := match sc.names.lookup x with
  | some .globalImplicit => true | _ => false
def slot (N : List Str) (x : Str) : Option Nat := N.findIdx? (· == x)
def isComp : Expr → Bool
  | .ListComp .. => true | .SetComp .. => true | .DictComp .. => true | _ => false
def isSl : Expr → Bool
  | .Slice .. => true | _ => false
def isSetE : Expr → Bool
  | .Set .. => true | _ => false
def isTupE : Expr → Bool
  | .Tuple .. => true | _ => false
def isNm : Expr → Bool
  | .Name .. => true | _ => false
def bopOf : Operator → Option BOp
  | .Add => some .add | .Sub => some .sub | .Mult => some .mul | .FloorDiv => some .fdiv | .Mod => some .mod | _ => none
def copOf : CmpOp → COp
  | .Eq => .eq | .NotEq => .ne | .Lt => .lt | .LtE => .le | .Gt => .gt | .GtE => .ge | .Is => .is_ | .IsNot => .isnot | .In => .in_ | .NotIn => .notin
theorem bopOf_py {o : Operator} {b : BOp} (h : bopOf o = some b) : b.py = o := by cases o <;> cases h <;> rfl
theorem copOf_py (o : CmpOp) : (copOf o).py = o := by cases o <;> rfl
def bfOf (f : Str) : Option BF := if f = "len" then some .len else if f = "all" then some .all else if f = "any" then some .any else if f = "int" then some .int else if f = "tuple" then some .tuple else if f = "str" then some .str else none
def tyOf (f : Str) : Option Ty := if f = "int" then some .int else if f = "bool" then some .bool else if f = "str" then some .str else if f = "tuple" then some .tuple else if f = "list" then some .list else none
def bis : List Str := ["len", "all", "any", "int", "tuple", "str", "bool", "list", "isinstance", "range", "sorted", "set"]
def cNames (fr : Bool) (N : List Str) (sc : Scope) : List Expr → Option (List Nat)
  | [] => some []
  | .Name x _ :: r => if locB fr sc x then (slot N x).bind fun i => (cNames fr N sc r).map (i :: ·) else none
  | _ :: _ => none
def cG (fr : Bool) (N : List Str) (sc : Scope) : Expr → Option MG
  | .Name x _ => if locB fr sc x then (slot N x).map .name else none
  | .Tuple es _ _ => (cNames fr N sc es).map .names
  | _ => none
def ownOf (N : List Str) (scope : Scope) : List (Str × Nat) := scope.names.filterMap fun y => match y.2 with
  | .local => (slot N y.1).map fun i => (y.1, i)
  | .cell => (slot N y.1).map fun i => (y.1, i)
  | _ => none
section
variable (K : Kc)
mutual
def cE : Nat → List Str → Scope → Expr → Option ME
  | 0, _, _, _ => none
  | n + 1, N, sc, e => match e with
    | .Name x _ => if okN x then (if visB sc x then (slot N x).map .var else if gliB sc x then (K.con x).map (.glo x) else none) else none
    | .Constant c _ _ => (litC c).map .lit
    | .Tuple es _ _ => if es.all nst then (cEs n N sc es).map .tup else none
    | .List es _ => if es.all nst then (cEs n N sc es).map .lst else none
    | .BinOp a op b _ => (bopOf op).bind fun o => (cE n N sc a).bind fun ma => (cE n N sc b).map fun mb => .bin o ma mb
    | .UnaryOp .USub a _ => (cE n N sc a).map .neg
    | .UnaryOp .Not a _ => (cE n N sc a).map .not
    | .BoolOp _ [a] _ => cE n N sc a
    | .BoolOp .And (a :: b :: r) pos => (cE n N sc a).bind fun ma => (cE n N sc (.BoolOp .And (b :: r) pos)).map fun mb => .and ma mb
    | .BoolOp .Or (a :: b :: r) pos => (cE n N sc a).bind fun ma => (cE n N sc (.BoolOp .Or (b :: r) pos)).map fun mb => .or ma mb
    | .IfExp t a b _ => (cT n N sc t).bind fun mt => (cE n N sc a).bind fun ma => (cE n N sc b).map fun mb => .ife mt ma mb
    | .Compare a [op] [b] _ => if behindInMarks op b then none else (cE n N sc a).bind fun ma => (cE n N sc b).map fun mb => .cmp (copOf op) ma mb
    | .Compare a [op, op'] [b, c] _ => if lastMarks [op, op'] [b, c] then none else (cE n N sc a).bind fun ma => (cE n N sc b).bind fun mb => (cE n N sc c).map fun mc => .cmp2 (copOf op) (copOf op') ma mb mc
    | .Subscript a (.Slice lo hi none _) _ => (cE n N sc a).bind fun ma => (cO n N sc lo).bind fun ml => (cO n N sc hi).map fun mh => .slc ma ml mh
    | .Subscript a b _ => if isSl b then none else (cE n N sc a).bind fun ma => (cE n N sc b).map fun mb => .idx ma mb
    | .Attribute a f _ => if isNm a && K.atts.contains f then (cE n N sc a).map fun ma => .att ma f else none
    | .ListComp elt [⟨tg, iter, ifs, 0⟩] scope _ => (cC n N sc elt tg iter ifs scope).map fun c => .comp ((ownOf N scope).map (·.2)) c.1 c.2.1 c.2.2.1 c.2.2.2
    | .Call (.Name f _) args [] _ => if gliB sc f && okN f && args.all nst then (match args with
        | [a, .Name t _] => if f = "isinstance" then (if gliB sc t && okN t then (tyOf t).bind fun T => (cE n N sc a).map fun ma => .isi ma T else none) else cF n N sc f args
        | [a] => if f = "list" then (cE n N sc a).map .lof else if f = "sorted" then (match a with
          | .Call (.Name g _) [b] [] _ => if decide (g = "set") && gliB sc g && nst b then (cE n N sc b).map .srt else none
          | _ => none) else cF n N sc f args
        | _ => cF n N sc f args) else none
    | .Call (.Attribute o m apos) args [] pos => (match o, args with
      | .Constant (.str x) _ _, [a] => if m = "join" && (apos.endLine == pos.line) && PyData.strOk x && nst a then (cE n N sc a).map fun ma => .join x ma else none
      | .Name y p, args => if args.all nst && (apos.endLine == pos.line) && decide (args.length < 30) then (cE n N sc (.Name y p)).bind fun mo => (cEs n N sc args).map fun ms => .mth mo m ms else none
      | _, _ => none)
    | _ => none
def cF : Nat → List Str → Scope → Str → List Expr → Option ME
  | 0, _, _, _, _ => none
  | n + 1, N, sc, f, args => match bfOf f with
    | some b => if args.isEmpty then none else (cEs n N sc args).map fun ms => .bif b ms
    | none => if K.isFn f then (cEs n N sc args).map fun ms => .call f ms
      else if K.isMk f && !args.isEmpty then (cEs n N sc args).map fun ms => .mk f ms else none
def cEs : Nat → List Str → Scope → List Expr → Option MEs
  | 0, _, _, _ => none
  | _ + 1, _, _, [] => some .nil
  | n + 1, N, sc, e :: es => (cE n N sc e).bind fun m => (cEs n N sc es).map fun ms => .cons m ms
def cT : Nat → List Str → Scope → Expr → Option MT
  | 0, _, _, _ => none
  | n + 1, N, sc, e => match e with
    | .UnaryOp .Not t _ => (cT n N sc t).map .not
    | .BoolOp .And (a :: r) _ => cAnd n N sc a r
    | .BoolOp .Or (a :: r) _ => cOr n N sc a r
    | .Compare a [op] [b] _ => if behindInMarks op b then none else (cE n N sc a).bind fun ma => (cE n N sc b).map fun mb => .val (.cmp (copOf op) ma mb)
    | .Compare a [op, op'] [b, c] _ => if lastMarks [op, op'] [b, c] then none else (cE n N sc a).bind fun ma => (cE n N sc b).bind fun mb => (cE n N sc c).map fun mc => .val (.cmp2 (copOf op) (copOf op') ma mb mc)
    | .BoolOp .. => none
    | .UnaryOp .. => none
    | .Compare .. => none
    | .IfExp .. => none
    | _ => (cE n N sc e).map .val
def cAnd : Nat → List Str → Scope → Expr → List Expr → Option MT
  | 0, _, _, _, _ => none
  | n + 1, N, sc, a, [] => cT n N sc a
  | n + 1, N, sc, a, b :: r => (cT n N sc a).bind fun ma => (cAnd n N sc b r).map fun mb => .and ma mb
def cOr : Nat → List Str → Scope → Expr → List Expr → Option MT
  | 0, _, _, _, _ => none
  | n + 1, N, sc, a, [] => cT n N sc a
  | n + 1, N, sc, a, b :: r => (cT n N sc a).bind fun ma => (cOr n N sc b r).map fun mb => .or ma mb
def cO : Nat → List Str → Scope → Option Expr → Option MO
  | 0, _, _, _ => none
  | _ + 1, _, _, none => some .non
  | n + 1, N, sc, some e => (cE n N sc e).map .som
def cI : Nat → List Str → Scope → Expr → Option MI
  | 0, _, _, _ => none
  | n + 1, N, sc, e => match e with
    | .Call (.Name f _) [a] [] _ => if f = "range" then (if gliB sc f && nst a then (cE n N sc a).map .r1 else none) else (cE n N sc e).map .ex
    | .Call (.Name f _) [a, b] [] _ => if f = "range" then (if gliB sc f && nst a && nst b then (cE n N sc a).bind fun ma => (cE n N sc b).map fun mb => .r2 ma mb else none) else (cE n N sc e).map .ex
    | e => if isSetE e then none else (cE n N sc e).map .ex
def cC : Nat → List Str → Scope → Expr → Expr → Expr → List Expr → Scope → Option (MG × MI × MT × ME)
  | 0, _, _, _, _, _, _, _ => none
  | n + 1, N, sc, elt, tg, iter, ifs, scope => if blkC N sc scope (ownOf N scope) && !isSetE iter then
      (cI n N sc iter).bind fun mi => (cG false N (relS scope sc) tg).bind fun mg => (cE n N (relS scope sc) elt).bind fun me =>
        if mg.slots.all fun i => ((ownOf N scope).map (·.2)).contains i then (match ifs with
          | [] => some (mg, mi, .yes, me)
          | [c] => (cT n N (relS scope sc) c).map fun mt => (mg, mi, mt, me)
          | _ => none) else none
    else none
end
end
end MP

set_option Elab.async false
set_option linter.all false
set_option maxRecDepth 100000
set_option autoImplicit false
/-! MP12: what is compiled is so: expressions. -/
namespace MP
open PySem PySem.Spec PyProof.Rows L2 C8

structure Cn (K : Kt) (G : Gd) (C : Cl) (n : Nat) (Wx : WX) (X : Cx) : Prop where
  hK : X.K = G.K
  calm : X.calm = true
  nd : X.N.Nodup
  room : RoomE (n + 1) X.A
  has : Has X G C n K.T
  tk : Takes X Wx
  isF : ∀ f, K.c.isFn f = true → (K.T.fn f).isSome = true
  isM : ∀ f, K.c.isMk f = true → (K.T.met f "__init__").isSome = true
  con : ∀ x q, K.c.con x = some q → ∃ v u, X.mg x = some u ∧ RelV v u ∧ ∀ ρ H, Rl G.K ρ H q v
  bi : ∀ x ∈ bis, X.mg x = none
  att : ∀ f, K.c.atts.contains f = true → Fields X G f
theorem slot_get {N : List Str} {x : Str} {i : Nat} (h : slot N x = some i) : N[i]? = some x := by
  unfold slot at h
  obtain ⟨hi, e, _⟩ := List.findIdx?_eq_some_iff_getElem.mp h
  rw [List.getElem?_eq_getElem hi]
  exact congrArg some (by simpa using e)
theorem okN_d {x : Str} (h : okN x = true) : (x == ("__debug__" : Str)) = false ∧ (x == ("__classdict__" : Str)) = false ∧ x ≠ "__name__" := by
  unfold okN at h
  simp only [Bool.and_eq_true, Bool.not_eq_true', decide_eq_false_iff_not] at h
  exact ⟨h.1.1, h.1.2, h.2⟩
theorem visB_ok {sc : Scope} {x : Str} (h : visB sc x = true) : Vis sc x := by
  unfold visB at h
  split at h
  · rename_i e; exact .inl e
  · rename_i e; exact .inr (.inl e)
  · rename_i e; exact .inr (.inr e)
  · cases h
theorem gliB_ok {X : Cx} {x : Str} (h : gliB X.env.scope x = true) : Gl X x := by
  unfold gliB at h
  split at h
  · rename_i e; exact e
  · cases h
theorem locB_ok {fr : Bool} {X : Cx} {x : Str} (h : locB fr X.env.scope x = true) (hf : fr = true → ∀ x, X.fn x = true) : L2.Loc X.env.scope x ∧ (X.fn x = true ∨ X.env.scope.names.lookup x = some .local) := by
  unfold locB at h
  split at h
  · rename_i e; exact ⟨.inl e, .inr e⟩
  · rename_i e; exact ⟨.inr e, .inl (hf h _)⟩
  · cases h
theorem if_some {α : Type} {c : Bool} {a : Option α} {b : α} (h : (if c = true then a else none) = some b) : c = true ∧ a = some b := by
  cases c with
  | true => exact ⟨rfl, h⟩
  | false => cases h
theorem if_none {α : Type} {c : Bool} {a : Option α} {b : α} (h : (if c = true then none else a) = some b) : c = false ∧ a = some b := by
  cases c with
  | true => cases h
  | false => exact ⟨rfl, h⟩
section
variable {X : Cx} {fr : Bool}
theorem cNames_ok (hn : X.N.Nodup) (hf : fr = true → ∀ x, X.fn x = true) : ∀ {es : List Expr} {is : List Nat}, cNames fr X.N X.env.scope es = some is →
    PGs X es (gNs is) ∧ (assignEach es X.env).length = is.length ∧ (assignEach es X.env).findIdx? (·.1) = none
  | [], is, h => by cases h; exact ⟨pgs_nil, rfl, rfl⟩
  | e :: es, is, h => by
    cases e with
    | Name x p =>
      obtain ⟨hl, h⟩ := if_some (show (if locB fr X.env.scope x = true then (slot X.N x).bind fun i => (cNames fr X.N X.env.scope es).map (i :: ·) else none) = some is from h)
      obtain ⟨i, e1, h⟩ := Option.bind_eq_some_iff.mp h
      obtain ⟨js, e2, rfl⟩ := Option.map_eq_some_iff.mp h
      obtain ⟨a, b, c⟩ := cNames_ok hn hf e2
      obtain ⟨l1, l2⟩ := locB_ok hl hf
      refine ⟨pgs_cons (pg_name hn (slot_get e1) l1 l2) a rfl, congrArg (· + 1) b, ?_⟩
      show List.findIdx? (·.1) ((false, assign (.Name x p) X.env) :: assignEach es X.env) = none
      rw [List.findIdx?_cons, c]; rfl
    | _ => cases h
theorem cG_ok (hc : X.calm = true) (hn : X.N.Nodup) (hf : fr = true → ∀ x, X.fn x = true) {tg : Expr} {mg : MG} (h : cG fr X.N X.env.scope tg = some mg) : PG X tg (gOf X.K mg) := by
  cases tg with
  | Name x p =>
    obtain ⟨hl, h⟩ := if_some (show (if locB fr X.env.scope x = true then (slot X.N x).map MG.name else none) = some mg from h)
    obtain ⟨i, e1, rfl⟩ := Option.map_eq_some_iff.mp h
    obtain ⟨l1, l2⟩ := locB_ok hl hf
    exact pg_name hn (slot_get e1) l1 l2
  | Tuple es k p =>
    obtain ⟨is, e1, rfl⟩ := Option.map_eq_some_iff.mp (show (cNames fr X.N X.env.scope es).map MG.names = some mg from h)
    obtain ⟨a, b, c⟩ := cNames_ok hn hf e1
    exact pg_tup hc a b c
  | _ => cases h
end
/-- what a comprehension's parts are -/
structure CompOk (G : Gd) (C : Cl) (Wx : WX) (X : Cx) (elt tg iter : Expr) (ifs : List Expr) (scope : Scope) (mg : MG) (mi : MI) (mt : MT) (me : ME) : Prop where
  hi : PI X tg iter (tEi G C Wx mi)
  ok : BlkOk X.N X.env.scope scope (ownOf X.N scope)
  hg : ∀ (s : Shared) (H : Hp) (c : Addr) (cl : List (Str × Addr)) (fp : List Addr), PG (X.blk s H scope (compEnvC scope cl c X.env) fp) tg (gOf G.K mg)
  ht : ∀ (s : Shared) (H : Hp) (c : Addr) (cl : List (Str × Addr)) (fp : List Addr), PTs (X.blk s H scope (compEnvC scope cl c X.env) fp) ifs (tEt G C noW mt)
  he : ∀ (s : Shared) (H : Hp) (c : Addr) (cl : List (Str × Addr)) (fp : List Addr), PE (X.blk s H scope (compEnvC scope cl c X.env) fp) elt (tEv G C noW me)
  hs : ∀ x, foldedSetIterable iter X.env x = pure x
  hsl : ∀ i ∈ mg.slots, i ∈ (ownOf X.N scope).map (·.2)
structure Snd (K : Kt) (G : Gd) (C : Cl) (n m : Nat) : Prop where
  e : ∀ {Wx : WX} {X : Cx}, Cn K G C n Wx X → ∀ {e : Expr} {me : ME}, cE K.c m X.N X.env.scope e = some me → PE X e (tEv G C Wx me)
  f : ∀ {Wx : WX} {X : Cx}, Cn K G C n Wx X → ∀ {f : Str} {args : List Expr} {me : ME} {p pos : Pos}, gliB X.env.scope f = true → okN f = true → args.all nst = true → cF K.c m X.N X.env.scope f args = some me → PE X (.Call (.Name f p) args [] pos) (tEv G C Wx me)
  es : ∀ {Wx : WX} {X : Cx}, Cn K G C n Wx X → ∀ {es : List Expr} {mes : MEs}, es.all nst = true → cEs K.c m X.N X.env.scope es = some mes → PA X es (tEs G C Wx mes) ∧ (es = [] → mes = .nil)
  t : ∀ {Wx : WX} {X : Cx}, Cn K G C n Wx X → ∀ {t : Expr} {mt : MT}, cT K.c m X.N X.env.scope t = some mt → PT X t (tEt G C Wx mt)
  and : ∀ {Wx : WX} {X : Cx}, Cn K G C n Wx X → ∀ {a : Expr} {r : List Expr} {mt : MT} {pos : Pos}, cAnd K.c m X.N X.env.scope a r = some mt → PW X (.BoolOp .And (a :: r) pos) (tEt G C Wx mt)
  or : ∀ {Wx : WX} {X : Cx}, Cn K G C n Wx X → ∀ {a : Expr} {r : List Expr} {mt : MT} {pos : Pos}, cOr K.c m X.N X.env.scope a r = some mt → PW X (.BoolOp .Or (a :: r) pos) (tEt G C Wx mt)
  o : ∀ {Wx : WX} {X : Cx}, Cn K G C n Wx X → ∀ {e : Option Expr} {mo : MO}, cO K.c m X.N X.env.scope e = some mo → PO X e (tEo G C Wx mo)
  i : ∀ {Wx : WX} {X : Cx}, Cn K G C n Wx X → ∀ {tg e : Expr} {mi : MI}, cI K.c m X.N X.env.scope e = some mi → PI X tg e (tEi G C Wx mi) ∧ isSetE e = false
  c : ∀ {Wx : WX} {X : Cx}, Cn K G C n Wx X → ∀ {elt tg iter : Expr} {ifs : List Expr} {scope : Scope} {mg : MG} {mi : MI} {mt : MT} {me : ME}, cC K.c m X.N X.env.scope elt tg iter ifs scope = some (mg, mi, mt, me) → CompOk G C Wx X elt tg iter ifs scope mg mi mt me
theorem fold_ok {e : Expr} {env : Env} (h : isSetE e = false) : ∀ x, foldedSetIterable e env x = pure x := by
  cases e <;> first | (intro _; rfl) | cases h
section
variable {K : Kt} {G : Gd} {C : Cl} {n m : Nat} {Wx : WX} {X : Cx}
theorem Cn.units (cn : Cn K G C n Wx X) : X.A.units + 65 < cLine := by have := cn.room.wide; omega
theorem Cn.blk (cn : Cn K G C n Wx X) (s : Shared) (H : Hp) (c : Addr) (cl : List (Str × Addr)) (fp : List Addr) (scope : Scope) : Cn K G C n noW (X.blk s H scope (compEnvC scope cl c X.env) fp) :=
  ⟨cn.hK, cn.calm, cn.nd, cn.room, ⟨cn.has.fn, cn.has.met, cn.has.hasM, cn.has.ini, cn.has.obj⟩, takes_no, cn.isF, cn.isM, cn.con, cn.bi, cn.att⟩
theorem plainIx_of {b : Expr} (h : isSl b = false) : PlainIx b := by
  cases b <;> first | (intro o i; rfl) | cases h
theorem bf_call (cn : Cn K G C n Wx X) {f : Str} {b : BF} {args : List Expr} {ms : MEs} {p pos : Pos} (hb : bfOf f = some b) (hg : gliB X.env.scope f = true) (hn : okN f = true) (ha : args.all nst = true) (hne : args.isEmpty = false) (pa : PA X args (tEs G C Wx ms)) :
    PE X (.Call (.Name f p) args [] pos) (tEv G C Wx (.bif b ms)) := by
  obtain ⟨h1, h2, h3⟩ := okN_d hn
  cases args with
  | nil => cases hne
  | cons a es =>
    unfold bfOf at hb
    split at hb
    · rename_i e; cases hb; subst e; exact se_bif (id := "len") cn.hK rfl cn.calm (gliB_ok hg) (cn.bi _ (by decide +kernel)) (by decide +kernel) pa ha h3 h1
    split at hb
    · rename_i e; cases hb; subst e; exact se_bif (id := "all") cn.hK rfl cn.calm (gliB_ok hg) (cn.bi _ (by decide +kernel)) (by decide +kernel) pa ha h3 h1
    split at hb
    · rename_i e; cases hb; subst e; exact se_bif (id := "any") cn.hK rfl cn.calm (gliB_ok hg) (cn.bi _ (by decide +kernel)) (by decide +kernel) pa ha h3 h1
    split at hb
    · rename_i e; cases hb; subst e; exact se_bifT (id := "int") cn.hK rfl cn.calm (gliB_ok hg) (cn.bi _ (by decide +kernel)) (by decide +kernel) pa ha h3 h1
    split at hb
    · rename_i e; cases hb; subst e; exact se_bifT (id := "tuple") cn.hK rfl cn.calm (gliB_ok hg) (cn.bi _ (by decide +kernel)) (by decide +kernel) pa ha h3 h1
    split at hb
    · rename_i e; cases hb; subst e; exact se_bifT (id := "str") cn.hK rfl cn.calm (gliB_ok hg) (cn.bi _ (by decide +kernel)) (by decide +kernel) pa ha h3 h1
    · cases hb
theorem isi_call (cn : Cn K G C n Wx X) {t : Str} {T : Ty} {a : Expr} {ma : ME} {p p2 pos : Pos} (ht : tyOf t = some T) (hg0 : gliB X.env.scope "isinstance" = true) (hg : gliB X.env.scope t = true) (hn : okN t = true) (na : nst a = true) (pa : PE X a (tEv G C Wx ma)) :
    PE X (.Call (.Name "isinstance" p) [a, .Name t p2] [] pos) (tEv G C Wx (.isi ma T)) := by
  obtain ⟨h1, h2, h3⟩ := okN_d hn
  unfold tyOf at ht
  split at ht
  · rename_i e; cases ht; subst e; exact se_isi cn.hK (gliB_ok hg0) (cn.bi _ (by decide +kernel)) (gliB_ok hg) (cn.bi _ (by decide +kernel)) (by decide +kernel) pa na h3 h1
  split at ht
  · rename_i e; cases ht; subst e; exact se_isi cn.hK (gliB_ok hg0) (cn.bi _ (by decide +kernel)) (gliB_ok hg) (cn.bi _ (by decide +kernel)) (by decide +kernel) pa na h3 h1
  split at ht
  · rename_i e; cases ht; subst e; exact se_isi cn.hK (gliB_ok hg0) (cn.bi _ (by decide +kernel)) (gliB_ok hg) (cn.bi _ (by decide +kernel)) (by decide +kernel) pa na h3 h1
  split at ht
  · rename_i e; cases ht; subst e; exact se_isi cn.hK (gliB_ok hg0) (cn.bi _ (by decide +kernel)) (gliB_ok hg) (cn.bi _ (by decide +kernel)) (by decide +kernel) pa na h3 h1
  split at ht
  · rename_i e; cases ht; subst e; exact se_isi cn.hK (gliB_ok hg0) (cn.bi _ (by decide +kernel)) (gliB_ok hg) (cn.bi _ (by decide +kernel)) (by decide +kernel) pa na h3 h1
  · cases ht
theorem snd_f (S : Snd K G C n m) (cn : Cn K G C n Wx X) {f : Str} {args : List Expr} {me : ME} {p pos : Pos} (hg : gliB X.env.scope f = true) (hn : okN f = true) (ha : args.all nst = true) (h : cF K.c (m + 1) X.N X.env.scope f args = some me) :
    PE X (.Call (.Name f p) args [] pos) (tEv G C Wx me) := by
  obtain ⟨h1, h2, h3⟩ := okN_d hn
  unfold cF at h
  split at h
  · rename_i b hb
    obtain ⟨hne, h⟩ := if_none h
    obtain ⟨ms, e1, rfl⟩ := Option.map_eq_some_iff.mp h
    exact bf_call cn hb hg hn ha hne (S.es cn ha e1).1
  · split at h
    · rename_i hT
      obtain ⟨ms, e1, rfl⟩ := Option.map_eq_some_iff.mp h
      obtain ⟨pa, h0⟩ := S.es cn ha e1
      exact se_call cn.has cn.room cn.tk (gliB_ok hg) (cn.isF _ hT) pa ha h1 h0
    · obtain ⟨hT, h⟩ := if_some h
      obtain ⟨ms, e1, rfl⟩ := Option.map_eq_some_iff.mp h
      obtain ⟨hm, hne⟩ := Bool.and_eq_true_iff.mp hT
      cases args with
      | nil => cases hne
      | cons a es => exact se_mk cn.has cn.room cn.tk (gliB_ok hg) (cn.isM _ hm) (S.es cn ha e1).1 ha h1
theorem snd_es (S : Snd K G C n m) (cn : Cn K G C n Wx X) {es : List Expr} {mes : MEs} (ha : es.all nst = true) (h : cEs K.c (m + 1) X.N X.env.scope es = some mes) : PA X es (tEs G C Wx mes) ∧ (es = [] → mes = .nil) := by
  cases es with
  | nil => unfold cEs at h; cases h; exact ⟨se_nil, fun _ => rfl⟩
  | cons e es =>
    unfold cEs at h
    obtain ⟨h1, h2⟩ := Bool.and_eq_true_iff.mp (show (nst e && es.all nst) = true from ha)
    obtain ⟨me, e1, h⟩ := Option.bind_eq_some_iff.mp h
    obtain ⟨ms, e2, rfl⟩ := Option.map_eq_some_iff.mp h
    exact ⟨se_cons (S.e cn e1) (S.es cn h2 e2).1 (star_cons h1), fun z => nomatch z⟩
theorem snd_o (S : Snd K G C n m) (cn : Cn K G C n Wx X) {e : Option Expr} {mo : MO} (h : cO K.c (m + 1) X.N X.env.scope e = some mo) : PO X e (tEo G C Wx mo) := by
  cases e with
  | none => unfold cO at h; cases h; exact so_non
  | some e =>
    unfold cO at h
    obtain ⟨me, e1, rfl⟩ := Option.map_eq_some_iff.mp h
    exact so_som (S.e cn e1)
theorem snd_and (S : Snd K G C n m) (cn : Cn K G C n Wx X) {a : Expr} {r : List Expr} {mt : MT} {pos : Pos} (h : cAnd K.c (m + 1) X.N X.env.scope a r = some mt) : PW X (.BoolOp .And (a :: r) pos) (tEt G C Wx mt) := by
  cases r with
  | nil => unfold cAnd at h; exact sw_and1 (S.t cn h)
  | cons b r =>
    unfold cAnd at h
    obtain ⟨ma, e1, h⟩ := Option.bind_eq_some_iff.mp h
    obtain ⟨mb, e2, rfl⟩ := Option.map_eq_some_iff.mp h
    exact sw_and (S.t cn e1) (S.and cn e2)
theorem snd_or (S : Snd K G C n m) (cn : Cn K G C n Wx X) {a : Expr} {r : List Expr} {mt : MT} {pos : Pos} (h : cOr K.c (m + 1) X.N X.env.scope a r = some mt) : PW X (.BoolOp .Or (a :: r) pos) (tEt G C Wx mt) := by
  cases r with
  | nil => unfold cOr at h; exact sw_or1 (S.t cn h)
  | cons b r =>
    unfold cOr at h
    obtain ⟨ma, e1, h⟩ := Option.bind_eq_some_iff.mp h
    obtain ⟨mb, e2, rfl⟩ := Option.map_eq_some_iff.mp h
    exact sw_or (S.t cn e1) (S.or cn e2)
end
end MP

set_option Elab.async false
set_option linter.all false
set_option maxRecDepth 100000
set_option autoImplicit false
/-! MP13: what is compiled is so: expressions, joined. -/
namespace MP
open PySem PySem.Spec PyProof.Rows L2 C8
theorem fewOk {pos : Pos} {env : Env} : ∀ {es : List Expr}, (es.all nst) = true → ((backTo pos (starEach es env)).all fun x => !x.1) = true
  | [], _ => rfl
  | e :: es, h => by
    obtain ⟨h1, h2⟩ := Bool.and_eq_true_iff.mp (show (nst e && es.all nst) = true from h)
    rw [star_cons h1]
    exact fewOk (pos := pos) h2
theorem plainly {X : Cx} {y m : Str} {p apos pos : Pos} {es : List Expr} (h : es.all nst = true) (hl : es.length < 30) (hline : (apos.endLine == pos.line) = true) : Plainly X (.Name y p) m apos pos es := by
  refine ⟨(do return (← importBound (.Name y p) X.env).getD true), ?_⟩
  rw [PySem.eval.eq_def]
  dsimp only
  unfold methodCall
  have few : methodCallForm (es.length + ([] : List Keyword).length) (backTo pos (starEach es X.env)) (backToKw pos (keywordEach [] X.env)) = true := by
    unfold methodCallForm
    rw [fewOk h]
    exact decide_eq_true hl
  rw [few]
  have e2 : methodCallPos true (.Name y p) X.env apos pos = pure pos := by
    unfold methodCallPos
    rw [if_pos (by simp [hline])]
  rw [e2]
  rfl
section
variable {K : Kt} {G : Gd} {C : Cl} {n m : Nat} {Wx : WX} {X : Cx}
theorem cop_cmp (cn : Cn K G C n Wx X) {op : CmpOp} {a b : Expr} {ma mb : ME} {pos : Pos} (hm : behindInMarks op b = false) (ha : PE X a (tEv G C Wx ma)) (hb : PE X b (tEv G C Wx mb)) : PE X (.Compare a [op] [b] pos) (tEv G C Wx (.cmp (copOf op) ma mb)) := by
  have := se_cmp (op := copOf op) (pos := pos) cn.hK cn.units ha hb (by rw [copOf_py]; exact hm)
  rwa [copOf_py] at this
theorem cop_cmpT (cn : Cn K G C n Wx X) {op : CmpOp} {a b : Expr} {ma mb : ME} {pos : Pos} (hm : behindInMarks op b = false) (ha : PE X a (tEv G C Wx ma)) (hb : PE X b (tEv G C Wx mb)) : PT X (.Compare a [op] [b] pos) (tEt G C Wx (.val (.cmp (copOf op) ma mb))) := by
  have := st_cmp (op := copOf op) (pos := pos) cn.hK cn.units ha hb (by rw [copOf_py]; exact hm)
  rwa [copOf_py] at this
theorem cop_cmp2 (cn : Cn K G C n Wx X) {op op' : CmpOp} {a b c : Expr} {ma mb mc : ME} {pos : Pos} (hm : lastMarks [op, op'] [b, c] = false) (ha : PE X a (tEv G C Wx ma)) (hb : PE X b (tEv G C Wx mb)) (hc : PE X c (tEv G C Wx mc)) : PE X (.Compare a [op, op'] [b, c] pos) (tEv G C Wx (.cmp2 (copOf op) (copOf op') ma mb mc)) := by
  have := se_cmp2 (op := copOf op) (op' := copOf op') (pos := pos) cn.hK cn.units ha hb hc (by rw [copOf_py, copOf_py]; exact hm)
  rwa [copOf_py, copOf_py] at this
theorem cop_cmp2T (cn : Cn K G C n Wx X) {op op' : CmpOp} {a b c : Expr} {ma mb mc : ME} {pos : Pos} (hm : lastMarks [op, op'] [b, c] = false) (ha : PE X a (tEv G C Wx ma)) (hb : PE X b (tEv G C Wx mb)) (hc : PE X c (tEv G C Wx mc)) : PT X (.Compare a [op, op'] [b, c] pos) (tEt G C Wx (.val (.cmp2 (copOf op) (copOf op') ma mb mc))) := by
  have := st_cmp2 (op := copOf op) (op' := copOf op') (pos := pos) cn.hK cn.units ha hb hc (by rw [copOf_py, copOf_py]; exact hm)
  rwa [copOf_py, copOf_py] at this
theorem snd_e (S : Snd K G C n m) (cn : Cn K G C n Wx X) {e : Expr} {me : ME} (h : cE K.c (m + 1) X.N X.env.scope e = some me) : PE X e (tEv G C Wx me) := by
  unfold cE at h
  split at h
  · obtain ⟨ho, h⟩ := if_some h
    obtain ⟨h1, h2, h3⟩ := okN_d ho
    split at h
    · rename_i hv
      obtain ⟨i, e1, rfl⟩ := Option.map_eq_some_iff.mp h
      exact se_var (slot_get e1) (visB_ok hv) h1 h2
    · obtain ⟨hg, h⟩ := if_some h
      obtain ⟨q, e1, rfl⟩ := Option.map_eq_some_iff.mp h
      obtain ⟨v, u, hm, r, hq⟩ := cn.con _ _ e1
      exact se_glo (gliB_ok hg) hm r h1 hq
  · obtain ⟨q, e1, rfl⟩ := Option.map_eq_some_iff.mp h
    exact se_lit e1
  · obtain ⟨hn, h⟩ := if_some h
    obtain ⟨ms, e1, rfl⟩ := Option.map_eq_some_iff.mp h
    exact se_tup (S.es cn hn e1).1
  · obtain ⟨hn, h⟩ := if_some h
    obtain ⟨ms, e1, rfl⟩ := Option.map_eq_some_iff.mp h
    exact se_lst (S.es cn hn e1).1
  · obtain ⟨o, e0, h⟩ := Option.bind_eq_some_iff.mp h
    obtain ⟨ma, e1, h⟩ := Option.bind_eq_some_iff.mp h
    obtain ⟨mb, e2, rfl⟩ := Option.map_eq_some_iff.mp h
    have := se_bin (op := o) (pos := ‹Pos›) cn.hK (S.e cn e1) (S.e cn e2)
    rwa [bopOf_py e0] at this
  · obtain ⟨ma, e1, rfl⟩ := Option.map_eq_some_iff.mp h
    exact se_neg (S.e cn e1)
  · obtain ⟨ma, e1, rfl⟩ := Option.map_eq_some_iff.mp h
    exact se_not cn.hK (S.e cn e1)
  · exact pe_one (S.e cn h)
  · obtain ⟨ma, e1, h⟩ := Option.bind_eq_some_iff.mp h
    obtain ⟨mb, e2, rfl⟩ := Option.map_eq_some_iff.mp h
    exact se_and cn.hK (S.e cn e1) (S.e cn e2)
  · obtain ⟨ma, e1, h⟩ := Option.bind_eq_some_iff.mp h
    obtain ⟨mb, e2, rfl⟩ := Option.map_eq_some_iff.mp h
    exact se_or cn.hK (S.e cn e1) (S.e cn e2)
  · obtain ⟨mt, e0, h⟩ := Option.bind_eq_some_iff.mp h
    obtain ⟨ma, e1, h⟩ := Option.bind_eq_some_iff.mp h
    obtain ⟨mb, e2, rfl⟩ := Option.map_eq_some_iff.mp h
    exact se_ife (S.t cn e0) (S.e cn e1) (S.e cn e2)
  · obtain ⟨hm, h⟩ := if_none h
    obtain ⟨ma, e1, h⟩ := Option.bind_eq_some_iff.mp h
    obtain ⟨mb, e2, rfl⟩ := Option.map_eq_some_iff.mp h
    exact cop_cmp cn hm (S.e cn e1) (S.e cn e2)
  · obtain ⟨hm, h⟩ := if_none h
    obtain ⟨ma, e1, h⟩ := Option.bind_eq_some_iff.mp h
    obtain ⟨mb, e2, h⟩ := Option.bind_eq_some_iff.mp h
    obtain ⟨mc, e3, rfl⟩ := Option.map_eq_some_iff.mp h
    exact cop_cmp2 cn hm (S.e cn e1) (S.e cn e2) (S.e cn e3)
  · obtain ⟨ma, e1, h⟩ := Option.bind_eq_some_iff.mp h
    obtain ⟨ml, e2, h⟩ := Option.bind_eq_some_iff.mp h
    obtain ⟨mh, e3, rfl⟩ := Option.map_eq_some_iff.mp h
    exact se_slc cn.hK (S.e cn e1) (S.o cn e2) (S.o cn e3)
  · obtain ⟨hm, h⟩ := if_none h
    obtain ⟨ma, e1, h⟩ := Option.bind_eq_some_iff.mp h
    obtain ⟨mb, e2, rfl⟩ := Option.map_eq_some_iff.mp h
    exact se_idx cn.hK (S.e cn e1) (S.e cn e2) (plainIx_of hm)
  · rename_i a f p
    obtain ⟨hf, h⟩ := if_some h
    obtain ⟨hn, hf⟩ := Bool.and_eq_true_iff.mp hf
    obtain ⟨ma, e1, rfl⟩ := Option.map_eq_some_iff.mp h
    refine se_att cn.has (cn.att f hf) (S.e cn e1) ?_
    cases a <;> first | rfl | cases hn
  · obtain ⟨c, e1, rfl⟩ := Option.map_eq_some_iff.mp h
    obtain ⟨mg, mi, mt, me⟩ := c
    have c := S.c cn e1
    exact pe_comp cn.hK cn.calm cn.nd c.hi c.ok c.hg c.ht c.he c.hs c.hsl
  · rename_i f p args pos
    obtain ⟨hc, hx⟩ := if_some h
    clear h
    obtain ⟨hc', ha⟩ := Bool.and_eq_true_iff.mp hc
    clear hc
    obtain ⟨hg, hn⟩ := Bool.and_eq_true_iff.mp hc'
    clear hc'
    split at hx
    · split at hx
      · rename_i ef
        subst ef
        obtain ⟨ht, hx⟩ := if_some hx
        obtain ⟨hg2, hn2⟩ := Bool.and_eq_true_iff.mp ht
        obtain ⟨T, e0, hx⟩ := Option.bind_eq_some_iff.mp hx
        obtain ⟨ma, e1, rfl⟩ := Option.map_eq_some_iff.mp hx
        exact isi_call cn e0 hg hg2 hn2 (Bool.and_eq_true_iff.mp (show (nst _ && _) = true from ha)).1 (S.e cn e1)
      · exact S.f cn hg hn ha hx
    · split at hx
      · rename_i ef
        subst ef
        obtain ⟨ma, e1, rfl⟩ := Option.map_eq_some_iff.mp hx
        obtain ⟨h1, h2, h3⟩ := okN_d hn
        exact se_lof cn.hK (gliB_ok hg) (cn.bi _ (by decide +kernel)) (by decide +kernel) (S.e cn e1) (Bool.and_eq_true_iff.mp (show (nst _ && _) = true from ha)).1 h3 h1
      · split at hx
        · rename_i ef
          subst ef
          split at hx
          · obtain ⟨hc, hx⟩ := if_some hx
            obtain ⟨hc, hn2⟩ := Bool.and_eq_true_iff.mp hc
            obtain ⟨hg3, hg2⟩ := Bool.and_eq_true_iff.mp hc
            obtain ⟨ma, e1, rfl⟩ := Option.map_eq_some_iff.mp hx
            have eg := of_decide_eq_true hg3
            subst eg
            exact se_srt cn.hK cn.calm cn.units (gliB_ok hg) (cn.bi _ (by decide +kernel)) (gliB_ok hg2) (cn.bi _ (by decide +kernel)) (S.e cn e1) hn2
          · cases hx
        · exact S.f cn hg hn ha hx
    · exact S.f cn hg hn ha hx
  · split at h
    · obtain ⟨hc, h⟩ := if_some h
      obtain ⟨hc, hn⟩ := Bool.and_eq_true_iff.mp hc
      obtain ⟨hc, hx⟩ := Bool.and_eq_true_iff.mp hc
      obtain ⟨hm, hl⟩ := Bool.and_eq_true_iff.mp hc
      obtain ⟨ma, e1, rfl⟩ := Option.map_eq_some_iff.mp h
      have em := of_decide_eq_true hm
      subst em
      exact se_join cn.hK hx (S.e cn e1) hn hl
    · obtain ⟨hc, h⟩ := if_some h
      obtain ⟨hc, hlt⟩ := Bool.and_eq_true_iff.mp hc
      obtain ⟨hn, hl⟩ := Bool.and_eq_true_iff.mp hc
      obtain ⟨mo, e1, h⟩ := Option.bind_eq_some_iff.mp h
      obtain ⟨ms, e2, rfl⟩ := Option.map_eq_some_iff.mp h
      obtain ⟨pa, h0⟩ := S.es cn hn e2
      exact se_mth cn.hK cn.has cn.room cn.tk (S.e cn e1) pa hn (plainly hn (of_decide_eq_true hlt) hl) h0
    · cases h
  · cases h
theorem snd_t (S : Snd K G C n m) (cn : Cn K G C n Wx X) {t : Expr} {mt : MT} (h : cT K.c (m + 1) X.N X.env.scope t = some mt) : PT X t (tEt G C Wx mt) := by
  unfold cT at h
  split at h
  · obtain ⟨ma, e1, rfl⟩ := Option.map_eq_some_iff.mp h
    exact st_not (S.t cn e1)
  · exact (S.and cn h).pt
  · exact (S.or cn h).pt
  · obtain ⟨hm, h⟩ := if_none h
    obtain ⟨ma, e1, h⟩ := Option.bind_eq_some_iff.mp h
    obtain ⟨mb, e2, rfl⟩ := Option.map_eq_some_iff.mp h
    exact cop_cmpT cn hm (S.e cn e1) (S.e cn e2)
  · obtain ⟨hm, h⟩ := if_none h
    obtain ⟨ma, e1, h⟩ := Option.bind_eq_some_iff.mp h
    obtain ⟨mb, e2, h⟩ := Option.bind_eq_some_iff.mp h
    obtain ⟨mc, e3, rfl⟩ := Option.map_eq_some_iff.mp h
    exact cop_cmp2T cn hm (S.e cn e1) (S.e cn e2) (S.e cn e3)
  · cases h
  · cases h
  · cases h
  · cases h
  · rename_i n1 n2 n3 n4
    obtain ⟨me, e1, rfl⟩ := Option.map_eq_some_iff.mp h
    refine st_val cn.hK (S.e cn e1) ?_
    cases t with
    | UnaryOp op a p => exact absurd rfl (n2 op a p)
    | BoolOp op vs p => exact absurd rfl (n1 op vs p)
    | Compare a ops cs p => exact absurd rfl (n3 a ops cs p)
    | IfExp a b c p => exact absurd rfl (n4 a b c p)
    | _ => intro _; rfl
theorem snd_i (S : Snd K G C n m) (cn : Cn K G C n Wx X) {tg e : Expr} {mi : MI} (h : cI K.c (m + 1) X.N X.env.scope e = some mi) : PI X tg e (tEi G C Wx mi) ∧ isSetE e = false := by
  unfold cI at h
  split at h
  · split at h
    · rename_i ef
      subst ef
      obtain ⟨hc, h⟩ := if_some h
      obtain ⟨hg, hn⟩ := Bool.and_eq_true_iff.mp hc
      obtain ⟨ma, e1, rfl⟩ := Option.map_eq_some_iff.mp h
      exact ⟨si_r1 (gliB_ok hg) (cn.bi _ (by decide +kernel)) (S.e cn e1) hn, rfl⟩
    · obtain ⟨ma, e1, rfl⟩ := Option.map_eq_some_iff.mp h
      exact ⟨si_ex cn.hK (S.e cn e1), rfl⟩
  · split at h
    · rename_i ef
      subst ef
      obtain ⟨hc, h⟩ := if_some h
      obtain ⟨hc, hn'⟩ := Bool.and_eq_true_iff.mp hc
      obtain ⟨hg, hn⟩ := Bool.and_eq_true_iff.mp hc
      obtain ⟨ma, e1, h⟩ := Option.bind_eq_some_iff.mp h
      obtain ⟨mb, e2, rfl⟩ := Option.map_eq_some_iff.mp h
      exact ⟨si_r2 (gliB_ok hg) (cn.bi _ (by decide +kernel)) (S.e cn e1) (S.e cn e2) hn hn', rfl⟩
    · obtain ⟨ma, e1, rfl⟩ := Option.map_eq_some_iff.mp h
      exact ⟨si_ex cn.hK (S.e cn e1), rfl⟩
  · obtain ⟨hs, h⟩ := if_none h
    obtain ⟨ma, e1, rfl⟩ := Option.map_eq_some_iff.mp h
    exact ⟨si_ex cn.hK (S.e cn e1), hs⟩
theorem pts_yes {Y : Cx} : PTs Y [] (tEt G C noW .yes) := ⟨fun pins s σ H Q I ⟨δ, ρ, L, S, lo, so, g⟩ => pts_nil.run pins s σ H Q I (by unfold evT at g; exact g.at_ so rfl)⟩
theorem snd_c (S : Snd K G C n m) (cn : Cn K G C n Wx X) {elt tg iter : Expr} {ifs : List Expr} {scope : Scope} {mg : MG} {mi : MI} {mt : MT} {me : ME} (h : cC K.c (m + 1) X.N X.env.scope elt tg iter ifs scope = some (mg, mi, mt, me)) : CompOk G C Wx X elt tg iter ifs scope mg mi mt me := by
  unfold cC at h
  obtain ⟨hc, h⟩ := if_some h
  obtain ⟨hb, hs⟩ := Bool.and_eq_true_iff.mp hc
  obtain ⟨mi', e1, h⟩ := Option.bind_eq_some_iff.mp h
  obtain ⟨mg', e2, h⟩ := Option.bind_eq_some_iff.mp h
  obtain ⟨me', e3, h⟩ := Option.bind_eq_some_iff.mp h
  obtain ⟨hsl, h⟩ := if_some h
  have hE : mg' = mg ∧ mi' = mi ∧ me' = me := by
    split at h
    · cases h; exact ⟨rfl, rfl, rfl⟩
    · obtain ⟨mt', _, e⟩ := Option.map_eq_some_iff.mp h
      cases e; exact ⟨rfl, rfl, rfl⟩
    · cases h
  obtain ⟨rfl, rfl, rfl⟩ := hE
  refine ⟨(S.i cn e1).1, blkOk_by hb, fun s H c cl fp => ?_, fun s H c cl fp => ?_, fun s H c cl fp => S.e (cn.blk s H c cl fp scope) e3, fold_ok (S.i cn (tg := tg) e1).2, fun i hi => ?_⟩
  · have := cG_ok (fr := false) (X := X.blk s H scope (compEnvC scope cl c X.env) fp) cn.calm cn.nd (by intro z; cases z) (show cG false X.N (relS scope X.env.scope) tg = some mg' from e2)
    have hK : (X.blk s H scope (compEnvC scope cl c X.env) fp).K = G.K := cn.hK
    rw [hK] at this
    exact this
  · split at h
    · cases h; exact pts_yes
    · obtain ⟨mt', e4, e⟩ := Option.map_eq_some_iff.mp h
      cases e
      exact pts_one (S.t (cn.blk s H c cl fp scope) e4)
    · cases h
  · have := List.all_eq_true.mp hsl i hi
    exact List.contains_iff_mem.mp this
end
theorem snd_all (K : Kt) (G : Gd) (C : Cl) (n : Nat) : ∀ m, Snd K G C n m
  | 0 => ⟨fun {_ _} _ {_ _} h => (nomatch (show (none : Option ME) = some _ from h)), fun {_ _} _ {_ _ _ _ _} _ _ _ h => (nomatch (show (none : Option ME) = some _ from h)), fun {_ _} _ {_ _} _ h => (nomatch (show (none : Option MEs) = some _ from h)), fun {_ _} _ {_ _} h => (nomatch (show (none : Option MT) = some _ from h)),
    fun {_ _} _ {_ _ _ _} h => (nomatch (show (none : Option MT) = some _ from h)), fun {_ _} _ {_ _ _ _} h => (nomatch (show (none : Option MT) = some _ from h)), fun {_ _} _ {_ _} h => (nomatch (show (none : Option MO) = some _ from h)), fun {_ _} _ {_ _ _} h => (nomatch (show (none : Option MI) = some _ from h)),
    fun {_ _} _ {_ _ _ _ _ _ _ _ _} h => (nomatch (show (none : Option (MG × MI × MT × ME)) = some _ from h))⟩
  | m + 1 => by
    have S := snd_all K G C n m
    exact ⟨fun {_ _} cn {_ _} h => snd_e S cn h, fun {_ _} cn {_ _ _ _ _} a b c h => snd_f S cn a b c h, fun {_ _} cn {_ _} a h => snd_es S cn a h, fun {_ _} cn {_ _} h => snd_t S cn h, fun {_ _} cn {_ _ _ _} h => snd_and S cn h, fun {_ _} cn {_ _ _ _} h => snd_or S cn h,
      fun {_ _} cn {_ _} h => snd_o S cn h, fun {_ _} cn {_ _ _} h => snd_i S cn h, fun {_ _} cn {_ _ _ _ _ _ _ _ _} h => snd_c S cn h⟩
end MP

set_option Elab.async false
set_option linter.all false
set_option maxRecDepth 100000
set_option autoImplicit false
/-! MP14: statements from the text. -/
namespace MP
open PySem PySem.Spec PyProof.Rows L2 C8
def isCo : Expr → Option (Expr × Expr × Expr × List Expr × Scope × Pos)
  | .ListComp elt [⟨tg, iter, ifs, 0⟩] scope pos => some (elt, tg, iter, ifs, scope, pos)
  | _ => none
section
variable (K : Kc)
/-- the value of a name that is live: a new list -/
def cNew (n : Nat) (N : List Str) (sc : Scope) : Expr → Option ME
  | .List es _ => if es.all nst then (cEs K n N sc es).map .lst else none
  | .Call (.Name f _) [a] [] _ => if f = "list" then (if gliB sc f && okN f && nst a then (cE K n N sc a).map .lof else none) else none
  | _ => none
mutual
def cS : Nat → List Str → Scope → List Str → Stmt → Option MS
  | 0, _, _, _, _ => none
  | n + 1, N, sc, lv, st => match st with
    | .Pass _ => some .pass
    | .Break _ => some .brk
    | .Continue _ => some .cnt
    | .Return none _ => some .retN
    | .Return (some e) _ => if lv.contains "return" then (cNew K n N sc e).map .retL else (cE K n N sc e).map .ret
    | .Expr (.Call (.Attribute (.Name y p) m apos) [e] [] cpos) _ => if lv.contains y then (if decide (m = "append") && (apos.endLine == cpos.line) && nst e then (cE K n N sc (.Name y p)).bind fun mo => (cE K n N sc e).map fun me => .app mo me else none)
        else (cE K n N sc (.Call (.Attribute (.Name y p) m apos) [e] [] cpos)).map .expr
    | .Expr e _ => if isComp e then none else (cE K n N sc e).map .expr
    | .If t a b _ => (cT K n N sc t).bind fun mt => (cSs n N sc lv a).bind fun ma => (cSs n N sc lv b).map fun mb => .ifs mt ma mb
    | .While t b [] _ => (cT K n N sc t).bind fun mt => (cSs n N sc lv b).map fun mb => .whl mt mb
    | .For tg it b [] _ => (cG true N sc tg).bind fun mg => (cI K n N sc it).bind fun mi => (cSs n N sc lv b).map fun mb => .for_ mg mi mb
    | .Assign [.Name y py] e pos => if locB true sc y then (slot N y).bind fun i => (match isCo e with
        | some (elt, tg, iter, ifs, scope, cpos) => if (match sc.names.lookup y with | some .local => true | _ => false) && (match sc.kind with | .function => true | _ => false) && (py.line == cpos.line) && !(scope.names.any fun (n, k) => n == y && (k == .local || k == .cell)) then
            (cC K n N sc elt tg iter ifs scope).map fun c => if lv.contains y then .new i (.comp ((ownOf N scope).map (·.2)) c.1 c.2.1 c.2.2.1 c.2.2.2) else .set (.g (.name i)) (.comp ((ownOf N scope).map (·.2)) c.1 c.2.1 c.2.2.1 c.2.2.2) else none
        | none => if isComp e then none else if lv.contains y then (cNew K n N sc e).map (.new i) else (cE K n N sc e).map fun me => .set (.g (.name i)) me) else none
    | .Assign [.Tuple ts k p] e _ => if isTupE e || isComp e then none else (cG true N sc (.Tuple ts k p)).bind fun mg => (cE K n N sc e).map fun me => .set (.g mg) me
    | .Assign [.Subscript o i _] e _ => if isSl i || isComp e then none else (cE K n N sc o).bind fun mo => (cE K n N sc i).bind fun mi => (cE K n N sc e).map fun me => .set (.sub mo mi) me
    | .Assign [.Attribute (.Name y p) f _] e _ => if !isComp e && K.atts.contains f then (cE K n N sc (.Name y p)).bind fun mo => (cE K n N sc e).map fun me => .fset mo f me else none
    | .AugAssign (.Name y _) op e _ => if locB true sc y then (slot N y).bind fun i => (bopOf op).bind fun o => (cE K n N sc e).map fun me => .aug i o me else none
    | .AugAssign (.Attribute (.Name y p) f _) .Add e _ => if K.atts.contains f then (cE K n N sc (.Name y p)).bind fun mo => (cE K n N sc e).map fun me => .faug mo f me else none
    | .Raise (some (.Call (.Name c _) [e] [] _)) none _ => if K.exc.contains c && gliB sc c && okN c && nst e then (cE K n N sc e).map fun me => .raise c me else none
    | .Try b [.ExceptHandler (some (.Name c _)) none [.Return (some (.Constant k _ _)) _] _] [] [] _ => if K.cat.contains c && gliB sc c && okN c then (litC k).bind fun q => (cSs n N sc lv b).map fun mb => .tryR mb c q else none
    | _ => none
def cSs : Nat → List Str → Scope → List Str → List Stmt → Option MSs
  | 0, _, _, _, _ => none
  | _ + 1, _, _, _, [] => some .nil
  | n + 1, N, sc, lv, s :: r => (cS n N sc lv s).bind fun m => (cSs n N sc lv r).map fun ms => .cons m ms
end
end
structure Cs (K : Kt) (G : Gd) (C : Cl) (n : Nat) (Wx : WX) (X : Cx) : Prop where
  cn : Cn K G C n Wx X
  own : PassesOwn (model X.prog X.w) X.A X.env X.xe
  fn : ∀ x, X.fn x = true
  stk : X.stack = X.env :: X.outer
  frm : X.env.frame = some X.env.locals
  exc : ∀ c, K.c.exc.contains c = true → Exc1 X G c
  cat : ∀ c, K.c.cat.contains c = true → ∃ Ca, G.cls c = some Ca ∧ X.mg c = some (.ref Ca)
  sub : SubOk X G C
theorem sw_no {e : Expr} {t : Option Expr} {l : Nat} {env : Env} (h : isComp e = false) : swapsWith e t l env = pure false := by
  cases e <;> first | rfl | cases h
theorem sw_sole {e t : Expr} {l : Nat} {env : Env} (h : isComp e = false) : swapsWithSole [t] e l env = pure false := by
  show swapsWith e (some t) l env = _
  exact sw_no h
theorem swappedNo {tg e : Expr} {env : Env} (h : isTupE e = false) : swappedStores [tg] e env = pure none := by
  cases tg <;> cases e <;> first | rfl | cases h
theorem sub_asg {o i : Expr} {tpos : Pos} {env : Env} (h : isSl i = false) : ∀ v, assign (.Subscript o i tpos) env v = (do
      let ov ← holding [v] (eval o env)
      let iv ← holding [v, ov] (eval i env)
      standAt tpos
      holding [v, ov, iv] (setItem ov iv v)
      release [v, ov, iv] []) := by
  cases i <;> first | (intro _; rfl) | cases h
section
variable {K : Kt} {G : Gd} {C : Cl} {n m : Nat} {Wx : WX} {X : Cx}
theorem Cs.tr (cs : Cs K G C n Wx X) {W : WX} (pn : List (Addr × Obj)) (xe : Value → Shared → Prop) (tk : Takes (X.tr pn xe) W) (own : PassesOwn (model X.prog X.w) X.A X.env xe) : Cs K G C n W (X.tr pn xe) :=
  ⟨⟨cs.cn.hK, cs.cn.calm, cs.cn.nd, cs.cn.room, ⟨cs.cn.has.fn, cs.cn.has.met, cs.cn.has.hasM, cs.cn.has.ini, cs.cn.has.obj⟩, tk, cs.cn.isF, cs.cn.isM, cs.cn.con, cs.cn.bi, cs.cn.att⟩, own, cs.fn, cs.stk, cs.frm, cs.exc, cs.cat, cs.sub⟩
theorem cNew_ok (cn : Cn K G C n Wx X) {e : Expr} {me : ME} (h : cNew K.c m X.N X.env.scope e = some me) : PE X e (tEn G C Wx me) := by
  have S := snd_all K G C n m
  unfold cNew at h
  split at h
  · obtain ⟨hn, h⟩ := if_some h
    obtain ⟨ms, e1, rfl⟩ := Option.map_eq_some_iff.mp h
    exact sn_lst (S.es cn hn e1).1
  · split at h
    · rename_i ef
      subst ef
      obtain ⟨hc, hx⟩ := if_some h
      obtain ⟨hc, hn⟩ := Bool.and_eq_true_iff.mp hc
      obtain ⟨hg, ho⟩ := Bool.and_eq_true_iff.mp hc
      obtain ⟨ma, e1, rfl⟩ := Option.map_eq_some_iff.mp hx
      obtain ⟨h1, h2, h3⟩ := okN_d ho
      exact sn_lof cn.hK (gliB_ok hg) (cn.bi _ (by decide +kernel)) (by decide +kernel) (S.e cn e1) hn h3 h1
    · cases h
  · cases h
theorem isCo_eq {e : Expr} {c : Expr × Expr × Expr × List Expr × Scope × Pos} (h : isCo e = some c) : e = .ListComp c.1 [⟨c.2.1, c.2.2.1, c.2.2.2.1, 0⟩] c.2.2.2.2.1 c.2.2.2.2.2 := by
  unfold isCo at h
  split at h
  · cases h; rfl
  · cases h
structure SndS (K : Kt) (G : Gd) (C : Cl) (n m : Nat) (lv : List Str) : Prop where
  s : ∀ {Wx : WX} {X : Cx}, Cs K G C n Wx X → ∀ {st : Stmt} {ms : MS}, cS K.c m X.N X.env.scope lv st = some ms → PS X st (tEx G Wx (exs C ms))
  ss : ∀ {Wx : WX} {X : Cx}, Cs K G C n Wx X → ∀ {st : List Stmt} {ms : MSs}, cSs K.c m X.N X.env.scope lv st = some ms → PSs X st (tEx G Wx (exss C ms))
theorem snds_ss {lv : List Str} (S : SndS K G C n m lv) (cs : Cs K G C n Wx X) {st : List Stmt} {ms : MSs} (h : cSs K.c (m + 1) X.N X.env.scope lv st = some ms) : PSs X st (tEx G Wx (exss C ms)) := by
  cases st with
  | nil => unfold cSs at h; cases h; exact ss_nil
  | cons s r =>
    unfold cSs at h
    obtain ⟨m1, e1, h⟩ := Option.bind_eq_some_iff.mp h
    obtain ⟨m2, e2, rfl⟩ := Option.map_eq_some_iff.mp h
    exact ss_cons (S.s cs e1) (S.ss cs e2)
theorem snds_s {lv : List Str} (S : SndS K G C n m lv) (cs : Cs K G C n Wx X) {st : Stmt} {ms : MS} (h : cS K.c (m + 1) X.N X.env.scope lv st = some ms) : PS X st (tEx G Wx (exs C ms)) := by
  have E := snd_all K G C n m
  have cn := cs.cn
  unfold cS at h
  split at h
  · cases h; exact ss_pass
  · cases h; exact ss_brk
  · cases h; exact ss_cnt
  · cases h; exact ss_retN
  · split at h
    · obtain ⟨me, e1, rfl⟩ := Option.map_eq_some_iff.mp h
      exact ss_retL (cNew_ok cn e1)
    · obtain ⟨me, e1, rfl⟩ := Option.map_eq_some_iff.mp h
      exact ss_ret (E.e cn e1)
  · split at h
    · obtain ⟨hc, hx⟩ := if_some h
      obtain ⟨hc, hn⟩ := Bool.and_eq_true_iff.mp hc
      obtain ⟨hm, hl⟩ := Bool.and_eq_true_iff.mp hc
      obtain ⟨mo, e1, hx⟩ := Option.bind_eq_some_iff.mp hx
      obtain ⟨me, e2, rfl⟩ := Option.map_eq_some_iff.mp hx
      have em := of_decide_eq_true hm
      subst em
      exact ss_app cn.hK (E.e cn e1) (E.e cn e2) hn rfl hl
    · obtain ⟨me, e1, rfl⟩ := Option.map_eq_some_iff.mp h
      exact ss_expr (E.e cn e1) rfl
  · obtain ⟨hc, h⟩ := if_none h
    obtain ⟨me, e1, rfl⟩ := Option.map_eq_some_iff.mp h
    exact ss_expr (E.e cn e1) (sw_no hc)
  · obtain ⟨mt, e0, h⟩ := Option.bind_eq_some_iff.mp h
    obtain ⟨ma, e1, h⟩ := Option.bind_eq_some_iff.mp h
    obtain ⟨mb, e2, rfl⟩ := Option.map_eq_some_iff.mp h
    exact ss_if (E.t cn e0) (S.ss cs e1) (S.ss cs e2)
  · obtain ⟨mt, e0, h⟩ := Option.bind_eq_some_iff.mp h
    obtain ⟨mb, e2, rfl⟩ := Option.map_eq_some_iff.mp h
    exact ss_while cs.own (E.t cn e0) (S.ss cs e2)
  · obtain ⟨mg, e0, h⟩ := Option.bind_eq_some_iff.mp h
    obtain ⟨mi, e1, h⟩ := Option.bind_eq_some_iff.mp h
    obtain ⟨mb, e2, rfl⟩ := Option.map_eq_some_iff.mp h
    obtain ⟨pi, hs⟩ := E.i cn e1
    exact ss_for cs.own cn.calm pi (cn.hK ▸ cG_ok cn.calm cn.nd (fun _ => cs.fn) e0) (S.ss cs e2) (fold_ok hs)
  · rename_i y py e pos
    obtain ⟨hl, hx⟩ := if_some h
    clear h
    obtain ⟨l1, l2⟩ := locB_ok hl (fun _ => cs.fn)
    obtain ⟨i, ei, hx⟩ := Option.bind_eq_some_iff.mp hx
    split at hx
    · rename_i elt tg iter ifs scope cpos ec
      rw [isCo_eq ec]
      obtain ⟨hc, hx⟩ := if_some hx
      simp only [Bool.and_eq_true] at hc
      obtain ⟨⟨⟨hlo, hk⟩, hpl⟩, hown⟩ := hc
      have hlo' : X.env.scope.names.lookup y = some .local := by
        split at hlo
        · assumption
        · cases hlo
      have hk' : X.env.scope.kind = .function := by
        split at hk
        · assumption
        · cases hk
      obtain ⟨c, e1, rfl⟩ := Option.map_eq_some_iff.mp hx
      obtain ⟨mg, mi, mt, me⟩ := c
      have c := E.c cn e1
      have sw : swapsWith (.ListComp elt [⟨tg, iter, ifs, 0⟩] scope cpos) (some (.Name y py)) pos.line X.env = pure true := sw_true hk' hlo' hpl (by simpa using hown)
      split
      · exact ss_newLc cn.hK cn.calm cn.nd (slot_get ei) hlo' sw c.hi c.ok c.hg c.ht c.he c.hs c.hsl
      · exact ss_setLc cn.hK cn.calm cn.nd (slot_get ei) hlo' sw c.hi c.ok c.hg c.ht c.he c.hs c.hsl
    · obtain ⟨hc, hx⟩ := if_none hx
      split at hx
      · obtain ⟨me, e1, rfl⟩ := Option.map_eq_some_iff.mp hx
        exact ss_new cn.nd (slot_get ei) l1 l2 (cNew_ok cn e1) (sw_sole hc)
      · obtain ⟨me, e1, rfl⟩ := Option.map_eq_some_iff.mp hx
        have g : PG X (.Name y py) (gOf G.K (.name i)) := pg_name cn.nd (slot_get ei) l1 l2
        exact ss_set cn.hK (E.e cn e1) g (sw_sole hc) (by cases e <;> rfl) rfl
  · obtain ⟨hc, h⟩ := if_none h
    obtain ⟨hc1, hc2⟩ := Bool.or_eq_false_iff.mp hc
    obtain ⟨mg, e0, h⟩ := Option.bind_eq_some_iff.mp h
    obtain ⟨me, e1, rfl⟩ := Option.map_eq_some_iff.mp h
    exact ss_set cn.hK (E.e cn e1) (cn.hK ▸ cG_ok cn.calm cn.nd (fun _ => cs.fn) e0) (sw_sole hc2) (swappedNo hc1) rfl
  · obtain ⟨hc, h⟩ := if_none h
    obtain ⟨hc1, hc2⟩ := Bool.or_eq_false_iff.mp hc
    obtain ⟨mo, e0, h⟩ := Option.bind_eq_some_iff.mp h
    obtain ⟨mi, e1, h⟩ := Option.bind_eq_some_iff.mp h
    obtain ⟨me, e2, rfl⟩ := Option.map_eq_some_iff.mp h
    exact ss_sub (E.e cn e0) (E.e cn e1) (E.e cn e2) (sub_asg hc1) (sw_sole hc2)
  · obtain ⟨hc, h⟩ := if_some h
    obtain ⟨hc, ha⟩ := Bool.and_eq_true_iff.mp hc
    obtain ⟨mo, e0, h⟩ := Option.bind_eq_some_iff.mp h
    obtain ⟨me, e1, rfl⟩ := Option.map_eq_some_iff.mp h
    exact ss_fset cn.has (cn.att _ ha) (E.e cn e0) (E.e cn e1) (sw_no (by simpa using hc))
  · obtain ⟨hl, h⟩ := if_some h
    obtain ⟨l1, l2⟩ := locB_ok hl (fun _ => cs.fn)
    obtain ⟨i, ei, h⟩ := Option.bind_eq_some_iff.mp h
    obtain ⟨o, eo, h⟩ := Option.bind_eq_some_iff.mp h
    obtain ⟨me, e1, rfl⟩ := Option.map_eq_some_iff.mp h
    have eo' := bopOf_py eo
    subst eo'
    exact ss_aug cn.nd (slot_get ei) l1 (E.e cn e1) l2
  · obtain ⟨hc, h⟩ := if_some h
    obtain ⟨mo, e0, h⟩ := Option.bind_eq_some_iff.mp h
    obtain ⟨me, e1, rfl⟩ := Option.map_eq_some_iff.mp h
    exact ss_faug cn.has (cn.att _ hc) (E.e cn e0) (E.e cn e1)
  · obtain ⟨hc, h⟩ := if_some h
    obtain ⟨hc, hn⟩ := Bool.and_eq_true_iff.mp hc
    obtain ⟨hc, ho⟩ := Bool.and_eq_true_iff.mp hc
    obtain ⟨hx, hg⟩ := Bool.and_eq_true_iff.mp hc
    obtain ⟨me, e1, rfl⟩ := Option.map_eq_some_iff.mp h
    exact ss_raise cn.calm cn.tk (cs.exc _ hx) (gliB_ok hg) (E.e cn e1) hn (okN_d ho).1
  · obtain ⟨hc, h⟩ := if_some h
    obtain ⟨hc, ho⟩ := Bool.and_eq_true_iff.mp hc
    obtain ⟨hx, hg⟩ := Bool.and_eq_true_iff.mp hc
    obtain ⟨q, eq, h⟩ := Option.bind_eq_some_iff.mp h
    obtain ⟨mb, e1, rfl⟩ := Option.map_eq_some_iff.mp h
    obtain ⟨Ca, k1, k2⟩ := cs.cat _ hx
    exact ss_tryR cn.hK cs.stk cs.frm cn.tk k1 ⟨gliB_ok hg, (okN_d ho).1, .inl k2⟩ cs.sub eq fun W pn xe tk own => S.ss (cs.tr pn xe tk own) e1
  · cases h
theorem snds_all (K : Kt) (G : Gd) (C : Cl) (n : Nat) (lv : List Str) : ∀ m, SndS K G C n m lv
  | 0 => ⟨fun {_ _} _ {_ _} h => (nomatch (show (none : Option MS) = some _ from h)), fun {_ _} _ {_ _} h => (nomatch (show (none : Option MSs) = some _ from h))⟩
  | m + 1 => by
    have S := snds_all K G C n lv m
    exact ⟨fun {_ _} cs {_ _} h => snds_s S cs h, fun {_ _} cs {_ _} h => snds_ss S cs h⟩
end
end MP

set_option Elab.async false
set_option linter.all false
set_option maxRecDepth 100000
set_option autoImplicit false
/-! MP15: defs. -/
namespace MP
open PySem PySem.Spec PyProof.Rows L2 C8
section
variable {G : Gd} {ρ ρ' m : List Addr} {H H' : Hp}
theorem ban_sub (δ : List Addr) (ρ m : List Addr) : ∀ a ∈ (G.dl δ).ban ρ, a ∈ (G.dl δ).ban (ρ ++ m) := fun a h => by
  show a ∈ (ρ ++ m) ++ δ
  have h : a ∈ ρ ++ δ := h
  simp only [List.mem_append] at h ⊢
  rcases h with h | h
  · exact .inl (.inl h)
  · exact .inr h
theorem RlW.trim {δ : List Addr} {w : W} {v : V} (h : ∀ n, w = .ref n → n < ρ.length) (r : RlW (G.dl δ) (ρ ++ m) H w v) : RlW (G.dl δ) ρ H w v := by
  cases w with
  | p x => exact Rl.less (ban_sub δ ρ m) _ _ r
  | ref n =>
    obtain ⟨a, e, q⟩ := r
    exact ⟨a, by rw [List.getElem?_append_left (h n rfl)] at e; exact e, q⟩
  | scr l => obtain ⟨a, vs, e, q, r⟩ := r; exact ⟨a, vs, e, q, Rls.less (ban_sub δ ρ m) _ _ r⟩
theorem RlF.trim {δ : List Addr} {ws : List (Str × W)} {vs : List (Str × V)} (h : (ws.all fun f => match f.2 with
    | .ref n => decide (n < ρ.length)
    | _ => true) = true) (r : RlF (G.dl δ) (ρ ++ m) H ws vs) : RlF (G.dl δ) ρ H ws vs := by
  induction r with
  | nil => exact .nil
  | cons q r ih =>
    obtain ⟨h1, h2⟩ := Bool.and_eq_true_iff.mp (show (_ && _) = true from h)
    exact .cons (q.trim fun n e => by subst e; exact of_decide_eq_true h1) (ih h2)
theorem ObR.trim {δ : List Addr} {o : Ob} {a : Addr} (h : closedO ρ.length o = true) (r : ObR (G.dl δ) (ρ ++ m) H a o) : ObR (G.dl δ) ρ H a o := by
  cases o with
  | lst l => obtain ⟨vs, e, r⟩ := r; exact ⟨vs, e, Rls.less (ban_sub δ ρ m) _ _ r⟩
  | ins c fs => obtain ⟨C, dx, fv, c1, e, r⟩ := r; exact ⟨C, dx, fv, c1, e, RlF.trim h r⟩
theorem StoOk.trim {δ : List Addr} {S T : Sto} (so : StoOk (G.dl δ) (ρ ++ m) H S) (e : trimS ρ.length S = some T) : StoOk (G.dl δ) ρ H T := by
  obtain ⟨hc, rfl⟩ := ite_some (show (if (S.take ρ.length).all (closedO ρ.length) = true then some (S.take ρ.length) else none) = some T from e)
  have hl : ρ.length ≤ S.length := by rw [so.len, List.length_append]; omega
  refine ⟨by rw [List.length_take]; omega, ?_, fun i o a e1 e2 => ?_, so.dl⟩
  · have nd : ((ρ ++ m) ++ δ).Nodup := so.nd
    show (ρ ++ δ).Nodup
    refine nd.sublist ?_
    exact List.Sublist.append (List.sublist_append_left ρ m) (List.Sublist.refl δ)
  · have hi : i < ρ.length := by
      rcases Nat.lt_or_ge i ρ.length with q | q
      · exact q
      · rw [List.getElem?_eq_none q] at e2; cases e2
    have ho := List.all_eq_true.mp hc o (List.mem_of_getElem? e1)
    rw [List.getElem?_take_of_lt hi] at e1
    exact (so.ob i o a e1 (by rw [List.getElem?_append_left hi]; exact e2)).trim ho
theorem gro_trim (g : Gro ρ H ρ' H') : Gro ρ H ρ H' := ⟨g.ext, fun a h => .inl h, [], by simp⟩
theorem RlWs.length {ws : List W} {vs : List V} (r : RlWs G ρ H ws vs) : ws.length = vs.length := by
  induction r with
  | nil => rfl
  | cons _ _ ih => exact congrArg (· + 1) ih
theorem RlWs.get {ws : List W} {vs : List V} (r : RlWs G ρ H ws vs) : ∀ {i : Nat} {w : W}, ws[i]? = some w → ∃ v, vs[i]? = some v ∧ RlW G ρ H w v := by
  induction r with
  | nil => intro i w e; simp at e
  | @cons w v ws vs h r ih =>
    intro i w' e
    cases i with
    | zero => simp at e; subst e; exact ⟨v, rfl, h⟩
    | succ i => simp at e; simpa using ih e
theorem start_ok {N : List Str} {f : MF} {ws : List W} {vs : List V} (hs : f.slots = N.length) (r : RlWs G ρ H ws vs) (hl : ws.length ≤ N.length) : LocOk G ρ H (startL f ws) (L2.start N vs) := by
  have e := r.length
  unfold startL L2.start
  refine ⟨by simp [e, hs], fun i w h => ?_⟩
  rcases Nat.lt_or_ge i ws.length with q | q
  · rw [List.getElem?_append_left (by simpa using q), List.getElem?_map] at h
    cases z : ws[i]? with
    | none => rw [z] at h; cases h
    | some w' =>
      rw [z] at h
      cases h
      obtain ⟨v, e1, e2⟩ := r.get z
      exact ⟨v, by rw [List.getElem?_append_left (by simpa [← e] using q), List.getElem?_map, e1]; rfl, e2⟩
  · rw [List.getElem?_append_right (by simpa using q)] at h
    rw [List.getElem?_replicate] at h
    split at h <;> cases h
/-- the outcome of a body, from a call's -/
theorem xp_run {δ : List Addr} {C : Cl} {f : MF} {ws : List W} {S : Sto} {Q : VK} {E : XK} (so : StoOk (G.dl δ) ρ H S) (g : Gv (G.dl δ) ρ H (fun c d _ H' => E c d H') [] (RlW (G.dl δ)) (runF C f ws S) Q) :
    ws.length = f.par ∧ Xp (G.dl δ) ρ H { nx := fun _ H' => Q .non H', rt := Q } (fun c d _ H' => E c d H') (exss C f.body (startL f ws) S) := by
  unfold runF at g
  split at g
  · rename_i hp
    refine ⟨hp, ?_⟩
    cases z : exss C f.body (startL f ws) S with
    | none => rw [z] at g; exact g.elim
    | some p =>
      obtain ⟨o, S'⟩ := p
      rw [z] at g
      intro ρ' H' gr so'
      dsimp only at g
      obtain ⟨m, rfl⟩ := gr.at_
      have hlen := so.len
      cases zt : trimS S.length S' with
      | none => rw [zt] at g; exact g.elim
      | some T =>
        rw [zt] at g
        dsimp only at g
        have so2 : StoOk (G.dl δ) ρ H' T := so'.trim (by rw [← hlen]; exact zt)
        have gt := gro_trim gr
        cases o with
        | brk L => exact g.elim
        | cnt L => exact g.elim
        | nx L => exact fun σ lo => g ρ H' _ gt so2 .non
        | exc e L =>
          refine fun σ cls d lo ex => g ρ H' cls d gt so2 ?_
          obtain ⟨Ca, h1, h2, h3⟩ := ex
          refine ⟨Ca, h1, h2, h3.imp id fun ⟨dx, fvs, e1, e2, r⟩ => ⟨dx, fvs, e1, e2, r.trim ?_⟩⟩
          rw [List.all_eq_true]
          intro x hx
          obtain ⟨y, _, rfl⟩ := List.mem_map.mp hx
          rfl
        | ret w =>
          intro u r
          cases w with
          | p x => exact g ρ H' u gt so2 (r.trim fun n e => nomatch e)
          | scr l => exact g ρ H' u gt so2 (r.trim fun n e => nomatch e)
          | ref n =>
            have g : Gv (G.dl δ) ρ H (fun c d _ H' => E c d H') [] (RlW (G.dl δ)) (if n < S.length then .ok (.ref n) T else match S'[n]? with
              | some (.lst l) => if f.live = true then .ok (.ref S.length) (T ++ [.lst l]) else .ok (.p (.lst l)) T
              | some (.ins c fs) => if f.live = true ∧ closedO S.length (.ins c fs) = true then .ok (.ref S.length) (T ++ [.ins c fs]) else .bad
              | none => .bad) Q := g
            split at g
            · rename_i hn
              exact g ρ H' u gt so2 (r.trim fun n' e => by cases e; rw [← hlen]; exact hn)
            · rename_i hn
              have hge : ρ.length ≤ n := by rw [← hlen]; omega
              obtain ⟨a, ea, rfl⟩ := r
              have am : a ∈ m := by
                rw [List.getElem?_append_right hge] at ea
                exact List.mem_of_getElem? ea
              have na : a ∉ (G.dl δ).ban ρ := fun h => by
                have nd : ((ρ ++ m) ++ δ).Nodup := so'.nd
                rcases List.mem_append.mp (show a ∈ ρ ++ δ from h) with q | q
                · exact (List.nodup_append.mp (List.nodup_append.mp nd).1).2.2 a q a am rfl
                · exact (List.nodup_append.mp nd).2.2 a (List.mem_append_right _ am) a q rfl
              have hH : H a = none := by
                rcases gr.new a (List.mem_append_right _ am) with q | q
                · exact absurd (List.mem_append_left _ q) na
                · exact q
              have push : ∀ {o : Ob}, S'[n]? = some o → closedO S.length o = true → StoOk (G.dl δ) (ρ ++ [a]) H' (T ++ [o]) := fun {o} eo hc => by
                have ob := (so'.ob n o a eo ea).trim (by rw [← hlen]; exact hc)
                have sub : ∀ x, x ∈ (G.dl δ).ban (ρ ++ [a]) → x ∈ (G.dl δ).ban (ρ ++ m) := fun x h => by
                  rcases (ban_push G ρ x).mp h with q | q
                  · rw [q]; exact List.mem_append_left _ (List.mem_append_right _ am)
                  · exact ban_sub δ ρ m x q
                have nd2 : ((ρ ++ [a]) ++ δ).Nodup := by
                  have p : ((ρ ++ [a]) ++ δ).Perm (a :: (ρ ++ δ)) := by
                    rw [List.append_assoc]
                    exact List.perm_middle
                  exact p.nodup_iff.mpr (List.nodup_cons.mpr ⟨na, so2.nd⟩)
                have up : ∀ {b : Addr} {o : Ob}, closedO ρ.length o = true → ObR (G.dl δ) (ρ ++ m) H' b o → ObR (G.dl δ) (ρ ++ [a]) H' b o := fun {b o} hc h => by
                  cases o with
                  | lst l => obtain ⟨vs, e, r⟩ := h; exact ⟨vs, e, Rls.less sub _ _ r⟩
                  | ins c fs =>
                    obtain ⟨C, dx, fv, c1, e, r⟩ := h
                    refine ⟨C, dx, fv, c1, e, ?_⟩
                    have hc' : (fs.all fun f => match f.2 with
                      | .ref n => decide (n < ρ.length)
                      | _ => true) = true := hc
                    clear e
                    induction r with
                    | nil => exact .nil
                    | @cons x w v ws vs q r ih =>
                      obtain ⟨h1, h2⟩ := Bool.and_eq_true_iff.mp (show (_ && _) = true from hc')
                      refine .cons ?_ (ih h2 h2)
                      cases w with
                      | p x => exact Rl.less sub _ _ q
                      | ref k =>
                        obtain ⟨b, e, q⟩ := q
                        have hk : k < ρ.length := of_decide_eq_true h1
                        exact ⟨b, by rw [List.getElem?_append_left hk] at e ⊢; exact e, q⟩
                      | scr l => obtain ⟨b, vs, e, q, r⟩ := q; exact ⟨b, vs, e, q, Rls.less sub _ _ r⟩
                have tl : T.length = ρ.length := so2.len
                obtain ⟨hcT, eT⟩ := ite_some (show (if (S'.take S.length).all (closedO S.length) = true then some (S'.take S.length) else none) = some T from zt)
                refine ⟨by rw [List.length_append, List.length_append, tl]; rfl, nd2, fun i y b e1 e2 => ?_, so'.dl⟩
                rcases Nat.lt_or_ge i ρ.length with q | q
                · rw [List.getElem?_append_left (by rw [tl]; exact q)] at e1
                  rw [List.getElem?_append_left q] at e2
                  rw [← eT] at e1
                  have ho := List.all_eq_true.mp hcT y (List.mem_of_getElem? e1)
                  rw [hlen] at ho
                  rw [List.getElem?_take_of_lt (by rw [hlen]; exact q)] at e1
                  exact up ho (so'.ob i y b e1 (by rw [List.getElem?_append_left q]; exact e2))
                · rw [List.getElem?_append_right (by rw [tl]; exact q), tl] at e1
                  rw [List.getElem?_append_right q] at e2
                  cases z : i - ρ.length with
                  | succ j => rw [z] at e1; simp at e1
                  | zero =>
                    rw [z] at e1 e2
                    simp at e1 e2
                    subst e1 e2
                    exact up (by rw [← hlen]; exact hc) (so'.ob n _ _ eo ea)
              have kref : ∃ b, (ρ ++ [a])[S.length]? = some b ∧ V.ref a = .ref b := ⟨a, by rw [hlen, List.getElem?_append_right (Nat.le_refl _), Nat.sub_self]; rfl, rfl⟩
              cases zo : S'[n]? with
              | none => rw [zo] at g; exact g.elim
              | some o =>
                rw [zo] at g
                cases o with
                | lst l =>
                  dsimp only at g
                  split at g
                  · exact g (ρ ++ [a]) H' _ (gro_live gt hH) (push zo rfl) kref
                  · obtain ⟨vs, e, r⟩ := so'.ob n _ a zo ea
                    exact g ρ H' _ gt so2 (.lst na e (Rls.less (ban_sub δ ρ m) _ _ r))
                | ins c fs =>
                  dsimp only at g
                  split at g
                  · rename_i hh
                    exact g (ρ ++ [a]) H' _ (gro_live gt hH) (push zo hh.2) kref
                  · exact g.elim
  · exact g.elim
end
end MP

set_option Elab.async false
set_option linter.all false
set_option maxRecDepth 100000
set_option autoImplicit false
/-! MP16: all defs, by frames. -/
namespace MP
open PySem PySem.Spec PyProof.Rows L2 C8
structure DefOk (Kt : Kt) (K : PySem.W.Frag) (f : Addr) (fd : FuncData) (x qual : Str) (mf : MF) (ps : List Str) : Prop where
  ex : ∃ st N lv k, Fun K x qual st f fd ∧ scC N ps (fnScope st) = true ∧ cSs Kt.c k N (fnScope st) lv (fnBody st) = some mf.body ∧ mf.par = ps.length ∧ mf.slots = N.length
  bd : Binds K fd ps []
/-- what the module is -/
structure Gr (K : PySem.W.Frag) (mg : Str → Option Value) (G : Gd) (Kt : Kt) : Prop where
  hK : K = G.K
  isF : ∀ f, Kt.c.isFn f = true → (Kt.T.fn f).isSome = true
  isM : ∀ f, Kt.c.isMk f = true → (Kt.T.met f "__init__").isSome = true
  con : ∀ x q, Kt.c.con x = some q → ∃ v u, mg x = some u ∧ RelV v u ∧ ∀ ρ H, Rl G.K ρ H q v
  bi : ∀ x ∈ bis, mg x = none
  att : ∀ f, Kt.c.atts.contains f = true → ∀ c Ca, G.ob c = some Ca → NoAttr K Ca f
  obj : ∀ c Ca, G.ob c = some Ca → Cls K Ca
  exc : ∀ c, Kt.c.exc.contains c = true → ∃ Ca bmB B newId initId, ExcBaseFacts B newId initId bmB ∧ PySem.W.excIn K Ca bmB newId = true ∧ mg c = some (.ref Ca) ∧ PySem.W.keepIn K (.ref Ca) = true ∧
    PySem.W.subIn K (.ref Ca) (.type "BaseException") = some true ∧ PySem.W.typeIn K (.ref Ca) = some (.type "type") ∧ G.cls c = some Ca
  cat : ∀ c, Kt.c.cat.contains c = true → ∃ Ca, G.cls c = some Ca ∧ mg c = some (.ref Ca)
  sub : ∀ c d b Ca Da, Kt.T.sub c d = some b → G.cls c = some Ca → G.cls d = some Da → PySem.W.exmOne K (.ref Ca) (.ref Da) = some b
  fn : ∀ f mf, Kt.T.fn f = some mf → ∃ a fd ps, DefOk Kt K a fd f f mf ps ∧ mg f = some (.ref a) ∧ PySem.W.keepIn K (.ref a) = true
  met : ∀ c m mf, Kt.T.met c m = some mf → ∃ Ca g fd ps qual, G.ob c = some Ca ∧ Meth K Ca m g ∧ DefOk Kt K g fd m qual mf ps
  ini : ∀ c, (Kt.T.met c "__init__").isSome = true → ∃ Ca g, G.ob c = some Ca ∧ mg c = some (.ref Ca) ∧ Mk K Ca g
section
variable {P : Program} {w : World} {K : PySem.W.Frag} {mg : Str → Option Value} {base : Heap} {G : Gd} {T : Kt}
def FnP (P : Program) (w : World) (K : PySem.W.Frag) (mg : Str → Option Value) (base : Heap) (G : Gd) (n : Nat) (r : List W → Sto → Res W) (g : Addr) : Prop := ∃ fd ps, FnE P w K mg base n g fd ps (spF G r) ∧ Binds K fd ps []
structure HasP (P : Program) (w : World) (K : PySem.W.Frag) (mg : Str → Option Value) (base : Heap) (G : Gd) (T : Tb) (n : Nat) : Prop where
  fn : ∀ f, (T.fn f).isSome = true → ∃ a, FnP P w K mg base G (n + 1) ((calls T n).fn f) a ∧ mg f = some (.ref a) ∧ PySem.W.keepIn K (.ref a) = true
  met : ∀ c m, (T.met c m).isSome = true → ∃ Ca g, G.ob c = some Ca ∧ Meth K Ca m g ∧ FnP P w K mg base G (n + 1) ((calls T n).met c m) g
  ini : ∀ c, (T.met c "__init__").isSome = true → ∃ Ca g, G.ob c = some Ca ∧ mg c = some (.ref Ca) ∧ Mk K Ca g ∧ FnP P w K mg base G n ((calls T n).ini c) g
theorem calls_sub (T : Tb) (n : Nat) : (calls T n).sub = T.sub := by cases n <;> rfl
theorem calls_has (T : Tb) (n : Nat) (c m : Str) : (calls T n).hasM c m = (T.met c m).isSome := by cases n <;> rfl
theorem def_ok (gr : Gr K mg G T) {n : Nat} (hp : HasP P w K mg base G T.T n) {f : Addr} {fd : FuncData} {x qual : Str} {mf : MF} {ps : List Str} (d : DefOk T K f fd x qual mf ps) :
    FnE P w K mg base (n + 2) f fd ps (spF G (runF (calls T.T n) mf)) := by
  obtain ⟨st, N, lv, k, F, hsc, hc, hpar, hsl⟩ := d.ex
  have many : ∀ vs H Q E, spF G (runF (calls T.T n) mf) vs H Q E → vs.length = ps.length := fun vs H Q E ⟨δ, ρ, S, ws, r, so, g⟩ => by
    rw [← r.length, (xp_run so g).1, hpar]
  have SC := fnScope_by hsc
  refine fnE_of F SC many fun cdv A outer s H vs Q E room h => ?_
  have hl := many _ _ _ _ h
  obtain ⟨δ, ρ, S, ws, r, so, g⟩ := h
  obtain ⟨hw, x⟩ := xp_run so g
  have hx : (cxOf (L2.CX P w) P w K mg base N qual (fnScope st) f cdv A outer s H E).xe = fun e s' => wpAny (model P w) (A.deeper (envOfC qual (fnScope st) s.heap.objs.size f cdv)) (leaving (envOfC qual (fnScope st) s.heap.objs.size f cdv) e) (fun _ s'' => L2.CX P w outer H s E e s'') (fun e' s'' => L2.CX P w outer H s E e' s'') s' := rfl
  have tk : Takes (cxOf (L2.CX P w) P w K mg base N qual (fnScope st) f cdv A outer s H E) (fun cls d _ H => E cls d H) := takes_of rfl rfl rfl hx
  have own : PassesOwn (model P w) (A.deeper (envOfC qual (fnScope st) s.heap.objs.size f cdv)) (envOfC qual (fnScope st) s.heap.objs.size f cdv) (cxOf (L2.CX P w) P w K mg base N qual (fnScope st) f cdv A outer s H E).xe :=
    passes_of (X := cxOf (L2.CX P w) P w K mg base N qual (fnScope st) f cdv A outer s H E) hx
  have cs : Cs T G (calls T.T n) n (fun cls d _ H => E cls d H) (cxOf (L2.CX P w) P w K mg base N qual (fnScope st) f cdv A outer s H E) :=
    ⟨⟨gr.hK, rfl, SC.nd, room, ⟨hp.fn, hp.met, fun c m h => by rw [calls_has] at h; exact h, hp.ini, gr.obj⟩, tk, gr.isF, gr.isM, gr.con, gr.bi, fun f hf => gr.att f hf⟩, own, fun _ => rfl, rfl, rfl,
      fun c hc => by
        obtain ⟨Ca, bmB, B, newId, initId, h1, h2, h3, h4, h5, h6, h7⟩ := gr.exc c hc
        exact ⟨Ca, bmB, B, newId, initId, h1, h2, h3, h4, raises_own h5 h6, h7⟩, gr.cat, fun c d b Ca Da e1 e2 e3 => gr.sub c d b Ca Da (by rw [calls_sub] at e1; exact e1) e2 e3⟩
  refine ⟨_, (snds_all T G (calls T.T n) n lv k).ss cs hc, δ, ρ, startL mf ws, S, start_ok hsl r ?_, so, x⟩
  rw [hw, hpar]
  have := congrArg List.length SC.pre
  rw [List.length_take] at this
  omega
theorem has_all (gr : Gr K mg G T) : ∀ n, HasP P w K mg base G T.T n
  | 0 => by
    refine ⟨fun f hf => ?_, fun c m hm => ?_, fun c hc => ?_⟩
    · obtain ⟨mf, e⟩ := Option.isSome_iff_exists.mp hf
      obtain ⟨a, fd, ps, d, h1, h2⟩ := gr.fn f mf e
      exact ⟨a, ⟨fd, ps, .never (spF_bad fun _ _ => rfl), d.bd⟩, h1, h2⟩
    · obtain ⟨mf, e⟩ := Option.isSome_iff_exists.mp hm
      obtain ⟨Ca, g, fd, ps, qual, h1, h2, d⟩ := gr.met c m mf e
      exact ⟨Ca, g, h1, h2, fd, ps, .never (spF_bad fun _ _ => rfl), d.bd⟩
    · obtain ⟨mf, e⟩ := Option.isSome_iff_exists.mp hc
      obtain ⟨Ca, g, h1, h2, h3⟩ := gr.ini c hc
      obtain ⟨Ca', g', fd, ps, qual, k1, k2, d⟩ := gr.met c _ mf e
      rw [h1] at k1
      cases k1
      have e2 := h3.init
      rw [k2.at_] at e2
      cases e2
      exact ⟨Ca, _, h1, h2, h3, fd, ps, .never (spF_bad fun _ _ => rfl), d.bd⟩
  | n + 1 => by
    have ih := has_all gr n
    refine ⟨fun f hf => ?_, fun c m hm => ?_, fun c hc => ?_⟩
    · obtain ⟨mf, e⟩ := Option.isSome_iff_exists.mp hf
      obtain ⟨a, fd, ps, d, h1, h2⟩ := gr.fn f mf e
      refine ⟨a, ⟨fd, ps, ?_, d.bd⟩, h1, h2⟩
      have q := def_ok (P := P) (w := w) (base := base) gr ih d
      have e' : (calls T.T (n + 1)).fn f = runF (calls T.T n) mf := by
        funext as S
        show (match T.T.fn f with | some mf => runF (calls T.T n) mf as S | none => .bad) = _
        rw [e]
      rw [e']
      exact q
    · obtain ⟨mf, e⟩ := Option.isSome_iff_exists.mp hm
      obtain ⟨Ca, g, fd, ps, qual, h1, h2, d⟩ := gr.met c m mf e
      refine ⟨Ca, g, h1, h2, fd, ps, ?_, d.bd⟩
      have q := def_ok (P := P) (w := w) (base := base) gr ih d
      have e' : (calls T.T (n + 1)).met c m = runF (calls T.T n) mf := by
        funext as S
        show (match T.T.met c m with | some mf => runF (calls T.T n) mf as S | none => .bad) = _
        rw [e]
      rw [e']
      exact q
    · obtain ⟨Ca, g, h1, h2, h3⟩ := gr.ini c hc
      obtain ⟨Ca', g', k1, k2, r⟩ := ih.met c "__init__" hc
      rw [h1] at k1
      cases k1
      have e2 := h3.init
      rw [k2.at_] at e2
      cases e2
      exact ⟨Ca, _, h1, h2, h3, r⟩
end
end MP

set_option Elab.async false
set_option linter.all false
set_option maxRecDepth 100000
set_option autoImplicit false
/-! MP17: a module by its tables; a law's end. -/
namespace MP
open PySem PySem.Spec PyProof.Rows L2 C8

def AllP {α : Type} (p : α → Prop) : List α → Prop
  | [] => True
  | x :: r => p x ∧ AllP p r
theorem AllP.mem {α : Type} {p : α → Prop} {x : α} : ∀ {l : List α}, AllP p l → x ∈ l → p x
  | _ :: _, ⟨h, r⟩, m => by
    rcases List.mem_cons.mp m with q | q
    · rw [q]; exact h
    · exact AllP.mem r q
theorem AllP.look {α β : Type} [BEq α] [LawfulBEq α] {p : α × β → Prop} {x : α} {y : β} : ∀ {l : List (α × β)}, AllP p l → l.lookup x = some y → p (x, y)
  | (k, v) :: r, ⟨h, q⟩, e => by
    rw [List.lookup_cons] at e
    cases z : x == k with
    | true =>
      rw [z] at e
      cases e
      rw [eq_of_beq z]
      exact h
    | false => rw [z] at e; exact AllP.look q e
theorem AllP.cont {p : Str → Prop} {x : Str} {l : List Str} (h : AllP p l) (e : l.contains x = true) : p x := h.mem (List.contains_iff_mem.mp e)
theorem fun_of {K : PySem.W.Frag} {x qual : Str} {params : Arguments} {body : List Stmt} {scope : Scope} {dvs : List V} {kws : List (Str × V)} {f : Addr} {fd : FuncData} (F : FunD K x qual params body scope dvs kws f fd) :
    Fun K x qual (.FunctionDef x params body [] none [] scope none x ⟨0, 0, 0, 0⟩) f fd := by
  obtain ⟨oc, od, dV, kV, doc, pm, an, cdv, ct, osl, h1, h2, h3, _, _⟩ := F.ex
  exact ⟨oc, od, dV, kV, doc, pm, an, cdv, ct, osl, h1, h2, h3⟩
def mfOf (c : Kc) (d : He.DefD) (ps N lv : List Str) (live : Bool) : MF := { par := ps.length, slots := N.length, body := (cSs c 1000 N d.scope lv d.body).getD .nil, live := live }
theorem defOk_of {c : Kc} {T : Tb} {K : PySem.W.Frag} {d : He.DefD} {f : Addr} {fd : FuncData} {ps N lv : List Str} {live : Bool} (F : FunD K d.name d.qual d.params d.body d.scope [] [] f fd) (sc : scC N ps d.scope = true) (cc : (cSs c 1000 N d.scope lv d.body).isSome = true)
    (b : ∀ (kV doc pm : Value) (an : Option Addr) (cdv ct : Value) (us : List Value), us.length = ps.length → bindArgs (PySem.W.fnOf d.name d.qual d.params d.body d.scope .none kV doc pm an cdv ct) ⟨us, []⟩ = pure (ps.zip us)) :
    DefOk ⟨c, T⟩ K f fd d.name d.qual (mfOf c d ps N lv live) ps := by
  refine ⟨⟨_, N, lv, 1000, fun_of F, sc, ?_, rfl, rfl⟩, F.bindsN b⟩
  obtain ⟨m, e⟩ := Option.isSome_iff_exists.mp cc
  show cSs c 1000 N d.scope lv d.body = some ((cSs c 1000 N d.scope lv d.body).getD .nil)
  rw [e]; rfl
/-- the row's wish of a def, from ours -/
theorem fnOk_of {P : Program} {w : World} {K : PySem.W.Frag} {mg : Str → Option Value} {base : Heap} {f : Addr} {fd : FuncData} {ps : List Str} {sp : Sp} (F : FnE P w K mg base 690 f fd ps sp) : FnOk P w K mg base (L2.CX P w) 231 f fd ps sp :=
  ⟨F.many, fun A outer s H args us vs Q E hr => F.goes A outer s H args us vs Q E ⟨hr.hd, by have := hr.dp; omega, by have := hr.un; omega⟩⟩
theorem room231 : Room 231 callerA := ⟨rfl, by decide +kernel, by decide +kernel⟩
theorem rls_ints {K : PySem.W.Frag} {ρ : List Addr} {H : Hp} : ∀ ns : List Int, Rls K ρ H (ns.map P.int) (ns.map V.int)
  | [] => .nil
  | n :: ns => .cons (.int n) (rls_ints ns)
theorem law_end {Pg : Program} {w : World} {K : PySem.W.Frag} {mg : Str → Option Value} {G : Gd} {T : Kt} (gr : Gr K mg G T) {fa : Addr} {fd : FuncData} {mf : MF} (d : DefOk T K fa fd "law" "law" mf ["script"]) {m : Nat}
    (hev : ∀ ns : List Int, ns.length ≤ m → (∀ z ∈ ns, Builtin.Int.intBits z ≤ 1048576) → ∀ v : W, (v = .scr (ns.map P.int) ∨ v = .p (.lst (ns.map P.int))) → ∃ S', runF (calls T.T 688) mf [v] [] = .ok (.p (.bl true)) S') :
    (∀ (H : Hp) (a : Addr) (ns : List Int), ns.length ≤ m → (∀ z ∈ ns, Builtin.Int.intBits z ≤ 1048576) → SqL K H a (ns.map V.int) → spF G (runF (calls T.T 688) mf) [.ref a] H (fun v _ => v = .bl true) fun _ _ _ => False) ∧
    ∀ base : Heap, K.In base → base.Ns mainGlobals mg → FnOk Pg w K mg base (L2.CX Pg w) 231 fa fd ["script"] (spF G (runF (calls T.T 688) mf)) := by
  refine ⟨fun H a ns hl hb hS => ?_, fun base _ _ => fnOk_of (def_ok gr (has_all gr 688) d)⟩
  have so : StoOk (G.dl []) [] H [] := ⟨rfl, List.nodup_nil, fun i o a e _ => by simp at e, fun a m => by cases m⟩
  have go : ∀ v : W, (v = .scr (ns.map P.int) ∨ v = .p (.lst (ns.map P.int))) → RlW (G.dl []) [] H v (.ref a) → spF G (runF (calls T.T 688) mf) [.ref a] H (fun v _ => v = .bl true) fun _ _ _ => False := fun v hv r => by
    obtain ⟨S', e⟩ := hev ns hl hb v hv
    refine ⟨[], [], [], [v], .cons r .nil, so, ?_⟩
    rw [e]
    intro ρ' H' u _ _ q
    cases q
    rfl
  have hK := gr.hK
  rcases hS with (h | ⟨o, h⟩) | h
  · exact go _ (.inr rfl) (Rl.lst (by intro m; cases m) h (rls_ints ns))
  · exact go _ (.inl rfl) ⟨a, _, rfl, .inl ⟨o, h⟩, rls_ints ns⟩
  · exact go _ (.inl rfl) ⟨a, _, rfl, .inr (hK ▸ h), rls_ints ns⟩
end MP

set_option Elab.async false
set_option linter.all false
set_option maxRecDepth 100000
set_option autoImplicit false
/-! MP18: the module's facts from lists. -/
namespace MP
open PySem PySem.Spec PyProof.Rows L2 C8

def gdOf (K : PySem.W.Frag) (excN objN : List Str) : Gd := ⟨K, fun c => if excN.contains c = true then some (He.ga K c) else none, fun c => if objN.contains c = true then some (He.ga K c) else none, []⟩
def kcOf (cons : List (Str × P)) (fnN mkN flds excN : List Str) : Kc := ⟨fun x => cons.lookup x, fun f => fnN.contains f, fun f => mkN.contains f, flds, excN, excN⟩
def tbOf (fns : List (Str × MF)) (mets : List ((Str × Str) × MF)) (subs : List ((Str × Str) × Bool)) : Tb := ⟨fun f => fns.lookup f, fun c m => mets.lookup (c, m), fun c d => subs.lookup (c, d)⟩
def ExcF (K : PySem.W.Frag) (mg : Str → Option Value) (G : Gd) (c : Str) : Prop := ∃ Ca bmB B newId initId, ExcBaseFacts B newId initId bmB ∧ PySem.W.excIn K Ca bmB newId = true ∧ mg c = some (.ref Ca) ∧ PySem.W.keepIn K (.ref Ca) = true ∧
    PySem.W.subIn K (.ref Ca) (.type "BaseException") = some true ∧ PySem.W.typeIn K (.ref Ca) = some (.type "type") ∧ G.cls c = some Ca
section
variable {K : PySem.W.Frag} {h : Heap} {mg : Str → Option Value} {excN objN : List Str}
theorem exc1 (X : K.In h) (Gm : h.Ns mainGlobals mg) {x : Str} (h1 : (He.Fa.exc x).ok K = true) (h2 : (He.Fa.glo x).ok K = true) (hc : excN.contains x = true) : ExcF K mg (gdOf K excN objN) x := by
  obtain ⟨a, b, c, d⟩ := He.exc_ok h1
  exact ⟨He.ga K x, _, _, _, _, PySem.F.excBase_ValueError, a, He.glo_ok X Gm h2, b, c, d, if_pos hc⟩
theorem look_cont {β : Type} {x : Str} : ∀ {l : List (Str × β)}, (l.map (·.1)).contains x = true → (l.lookup x).isSome = true
  | [], h => by cases h
  | (k, v) :: r, h => by
    rw [List.lookup_cons]
    cases z : x == k with
    | true => rfl
    | false =>
      refine look_cont ?_
      rw [List.map_cons, List.contains_cons, z] at h
      exact h
theorem ob_inv {c : Str} {Ca : Addr} (e : (gdOf K excN objN).ob c = some Ca) : objN.contains c = true ∧ He.ga K c = Ca := ite_some e
theorem cls_inv {c : Str} {Ca : Addr} (e : (gdOf K excN objN).cls c = some Ca) : excN.contains c = true ∧ He.ga K c = Ca := ite_some e
theorem ob_in {c : Str} (h : objN.contains c = true) : (gdOf K excN objN).ob c = some (He.ga K c) := if_pos h
theorem cls_in {c : Str} (h : excN.contains c = true) : (gdOf K excN objN).cls c = some (He.ga K c) := if_pos h
theorem gr_of {cons : List (Str × P)} {fns : List (Str × MF)} {mets : List ((Str × Str) × MF)} {subs : List ((Str × Str) × Bool)} {fnN mkN flds : List Str}
    (hfn : fnN = fns.map (·.1)) (hmk : AllP (fun c => (mets.lookup (c, ("__init__" : Str))).isSome = true) mkN)
    (con : AllP (fun p : Str × P => ∃ v u, mg p.1 = some u ∧ RelV v u ∧ ∀ ρ H, Rl K ρ H p.2 v) cons) (bi : AllP (fun x : Str => mg x = none) bis)
    (att : AllP (fun f : Str => AllP (fun o : Str => NoAttr K (He.ga K o) f) objN) flds) (obj : AllP (fun o : Str => Cls K (He.ga K o)) objN)
    (mk : AllP (fun o : Str => mg o = some (.ref (He.ga K o)) ∧ Mk K (He.ga K o) (He.ma K (He.ga K o) "__init__")) objN)
    (exc : AllP (fun x : Str => ExcF K mg (gdOf K excN objN) x) excN) (cat : AllP (fun x : Str => ∃ Ca, (gdOf K excN objN).cls x = some Ca ∧ mg x = some (.ref Ca)) excN)
    (sub : AllP (fun x : (Str × Str) × Bool => PySem.W.exmOne K (.ref (He.ga K x.1.1)) (.ref (He.ga K x.1.2)) = some x.2) subs)
    (fn : AllP (fun x : Str × MF => ∃ a fd ps, DefOk ⟨kcOf cons fnN mkN flds excN, tbOf fns mets subs⟩ K a fd x.1 x.1 x.2 ps ∧ mg x.1 = some (.ref a) ∧ PySem.W.keepIn K (.ref a) = true) fns)
    (met : AllP (fun x : (Str × Str) × MF => ∃ Ca g fd ps qual, (gdOf K excN objN).ob x.1.1 = some Ca ∧ Meth K Ca x.1.2 g ∧ DefOk ⟨kcOf cons fnN mkN flds excN, tbOf fns mets subs⟩ K g fd x.1.2 qual x.2 ps) mets) :
    Gr K mg (gdOf K excN objN) ⟨kcOf cons fnN mkN flds excN, tbOf fns mets subs⟩ where
  hK := rfl
  isF := fun f hf => look_cont (by rw [← hfn]; exact hf)
  isM := fun f hf => hmk.cont hf
  con := fun x q e => con.look e
  bi := fun x m => bi.mem m
  att := fun f hf c Ca e => by
    obtain ⟨h1, h2⟩ := ob_inv e
    rw [← h2]
    exact (att.cont hf).cont h1
  obj := fun c Ca e => by
    obtain ⟨h1, h2⟩ := ob_inv e
    rw [← h2]
    exact obj.cont h1
  exc := fun c hc => exc.cont hc
  cat := fun c hc => cat.cont hc
  sub := fun c d b Ca Da e h1 h2 => by
    obtain ⟨_, k1⟩ := cls_inv h1
    obtain ⟨_, k2⟩ := cls_inv h2
    rw [← k1, ← k2]
    exact sub.look e
  fn := fun f mf e => fn.look e
  met := fun c m mf e => met.look e
  ini := fun c hc => by
    obtain ⟨mf, e⟩ := Option.isSome_iff_exists.mp hc
    obtain ⟨Ca, g, fd, ps, qual, h1, _, _⟩ := met.look e
    obtain ⟨h3, h4⟩ := ob_inv h1
    obtain ⟨k1, k2⟩ := mk.cont h3
    exact ⟨He.ga K c, _, if_pos h3, k1, k2⟩
end
end MP

set_option Elab.async false
set_option linter.all false
set_option maxRecDepth 100000
set_option autoImplicit false
/-! MP19: the evaluator's equations, for simp. -/
namespace MP
open PySem
theorem bind_ok {α β : Type} (a : α) (S : Sto) (f : α → Sto → Res β) : (Res.ok a S).bind f = f a S := rfl
theorem lft_ok {α : Type} (L : Loc) (a : α) (S : Sto) (k : α → Sto → XR) : lft L (.ok a S) k = k a S := rfl
theorem ofO_some {α : Type} (a : α) (S : Sto) : ofO (some a) S = .ok a S := rfl
section
variable (C : Cl) (L : Loc) (S : Sto)
theorem q_var (i : Nat) : ev C (.var i) L S = match L[i]? with | some (some w) => .ok w S | _ => .bad := rfl
theorem q_lit (q : P) : ev C (.lit q) L S = .ok (.p q) S := rfl
theorem q_glo (x : Str) (q : P) : ev C (.glo x q) L S = .ok (.p q) S := rfl
theorem q_bin (o : BOp) (a b : ME) : ev C (.bin o a b) L S = (ev C a L S).bind fun x S => (ev C b L S).bind fun y S => ofO ((rd S x).bind fun p => (rd S y).bind fun q => (bop o p q).map W.p) S := rfl
theorem q_cmp (o : COp) (a b : ME) : ev C (.cmp o a b) L S = (ev C a L S).bind fun x S => (ev C b L S).bind fun y S => ofO ((rd S x).bind fun p => (rd S y).bind fun q => (cop o p q).map fun k => W.p (.bl k)) S := rfl
theorem q_idx (a b : ME) : ev C (.idx a b) L S = (ev C a L S).bind fun x S => (ev C b L S).bind fun y S => ofO ((rd S x).bind fun p => (rd S y).bind fun q => (pidx p q).map W.p) S := rfl
theorem q_bif (f : BF) (es : MEs) : ev C (.bif f es) L S = (evs C es L S).bind fun ws S => ofO ((rds S ws).bind fun l => (bfn f l).map W.p) S := rfl
theorem q_call (f : Str) (es : MEs) : ev C (.call f es) L S = (evs C es L S).bind fun ws S => C.fn f ws S := rfl
theorem q_nil : evs C .nil L S = .ok [] S := rfl
theorem q_cons (e : ME) (es : MEs) : evs C (.cons e es) L S = (ev C e L S).bind fun w S => (evs C es L S).bind fun ws S => .ok (w :: ws) S := rfl
theorem q_val (e : ME) : evT C (.val e) L S = (ev C e L S).bind fun x S => ofO ((rd S x).bind truth) S := rfl
theorem q_tand (t u : MT) : evT C (.and t u) L S = (evT C t L S).bind fun k S => if k = true then evT C u L S else .ok false S := rfl
theorem q_ifs (t : MT) (a b : MSs) : exs C (.ifs t a b) L S = lft L (evT C t L S) fun k S => if k = true then exss C a L S else exss C b L S := rfl
theorem q_set (t : TG) (e : ME) : exs C (.set t e) L S = lft L (ev C e L S) fun w S => exG C t w L S := rfl
theorem q_snil : exss C .nil L S = some (.nx L, S) := rfl
theorem q_scons (s : MS) (r : MSs) : exss C (.cons s r) L S = match exs C s L S with | some (.nx L', S') => exss C r L' S' | r => r := rfl
theorem q_gn (i : Nat) (w : W) : exG C (.g (.name i)) w L S = some (.nx (L.set i (some w)), S) := rfl
theorem q_sub (o i : ME) (x : P) : exG C (.sub o i) (.p x) L S = lft L (ev C o L S) fun ov S => lft L (ev C i L S) fun iv S => (match ov, iv with
      | .ref n, .p (.int i) => (match putAt S n i x with
        | some S => some (.nx L, S)
        | none => none)
      | _, _ => none) := rfl
theorem q_neg (e : ME) : ev C (.neg e) L S = (ev C e L S).bind fun x S => (match x with
    | .p (.int i) => .ok (.p (.int (-i))) S
    | _ => .bad) := rfl
theorem q_not (e : ME) : ev C (.not e) L S = (ev C e L S).bind fun x S => ofO ((rd S x).bind fun p => (truth p).map fun k => W.p (.bl (!k))) S := rfl
theorem q_tup (es : MEs) : ev C (.tup es) L S = (evs C es L S).bind fun ws S => ofO ((pures S ws).bind fun l => (cut sizeLine l).map fun l => W.p (.tup l)) S := rfl
theorem q_lst (es : MEs) : ev C (.lst es) L S = (evs C es L S).bind fun ws S => ofO ((pures S ws).bind fun l => (cut sizeLine l).map fun l => W.p (.lst l)) S := rfl
theorem q_isi (e : ME) (T : Ty) : ev C (.isi e T) L S = (ev C e L S).bind fun x S => ofO ((rd S x).map fun p => W.p (.bl (isT T p))) S := rfl
theorem q_ife (t : MT) (a b : ME) : ev C (.ife t a b) L S = (evT C t L S).bind fun k S => if k = true then ev C a L S else ev C b L S := rfl
theorem q_slc (a : ME) (lo hi : MO) : ev C (.slc a lo hi) L S = (ev C a L S).bind fun x S => (evO C lo L S).bind fun l S => (evO C hi L S).bind fun u S => (match x with
    | .scr m => .ok (.p (.lst (cutP m l u))) S
    | x => ofO ((rd S x).bind fun p => (pslc p l u).map W.p) S) := rfl
theorem q_onon : evO C .non L S = .ok none S := rfl
theorem q_osom (e : ME) : evO C (.som e) L S = (ev C e L S).bind fun x S => (match x with
    | .p (.int i) => .ok (some i) S
    | _ => .bad) := rfl
theorem q_tnot (t : MT) : evT C (.not t) L S = (evT C t L S).bind fun k S => .ok (!k) S := rfl
theorem q_tor (t u : MT) : evT C (.or t u) L S = (evT C t L S).bind fun k S => if k = true then .ok true S else evT C u L S := rfl
theorem q_yes : evT C .yes L S = .ok true S := rfl
theorem q_whl (t : MT) (b : MSs) : exs C (.whl t b) L S = whlF (evT C t) (exss C b) fuel L S := rfl
theorem q_for (g : MG) (i : MI) (b : MSs) : exs C (.for_ g i b) L S = lft L (evI C i L S) fun l S => forF g (exss C b) l L S := rfl
theorem q_iex (e : ME) : evI C (.ex e) L S = (ev C e L S).bind fun x S => (match x with
    | .p p => ofO (walk p) S
    | _ => .bad) := rfl
theorem q_ir1 (e : ME) : evI C (.r1 e) L S = (ev C e L S).bind fun x S => ofO ((rd S x).bind rng1) S := rfl
theorem q_att (o : ME) (f : Str) : ev C (.att o f) L S = (ev C o L S).bind fun x S => ofO (attOf S f x) S := rfl
theorem q_join (x : Str) (a : ME) : ev C (.join x a) L S = (ev C a L S).bind fun w S => ofO ((rd S w).bind fun p => (joinP x p).map W.p) S := rfl
theorem q_srt (a : ME) : ev C (.srt a) L S = (ev C a L S).bind fun w S => ofO ((rd S w).bind fun p => (srtP p).map W.p) S := rfl
theorem q_ret (e : ME) : exs C (.ret e) L S = lft L (ev C e L S) fun w S => some (.ret w, S) := rfl
end
theorem run_ret {C : Cl} {f : MF} {as : List W} {S S' T : Sto} {w : W} (h : as.length = f.par) (e : exss C f.body (startL f as) S = some (.ret w, S')) (t : trimS S.length S' = some T) : runF C f as S = fin f.live S.length S' T w := by
  unfold runF
  simp only [h, e, t, if_true]
theorem run_exc {C : Cl} {f : MF} {as : List W} {S S' T : Sto} {x : Exn} {L : Loc} (h : as.length = f.par) (e : exss C f.body (startL f as) S = some (.exc x L, S')) (t : trimS S.length S' = some T) : runF C f as S = .ex x T := by
  unfold runF
  simp only [h, e, t, if_true]
theorem run_nx {C : Cl} {f : MF} {as : List W} {S S' T : Sto} {L : Loc} (h : as.length = f.par) (e : exss C f.body (startL f as) S = some (.nx L, S')) (t : trimS S.length S' = some T) : runF C f as S = .ok (.p .non) T := by
  unfold runF
  simp only [h, e, t, if_true]
theorem ix0 (a b c d e : P) : L2.atI [a, b, c, d, e] 0 = some a := rfl
theorem ix1 (a b c d e : P) : L2.atI [a, b, c, d, e] 1 = some b := rfl
theorem ix2 (a b c d e : P) : L2.atI [a, b, c, d, e] 2 = some c := rfl
theorem ix3 (a b c d e : P) : L2.atI [a, b, c, d, e] 3 = some d := rfl
theorem ix4 (a b c d e : P) : L2.atI [a, b, c, d, e] 4 = some e := rfl
theorem put1 (a b c d e x : P) : putAt [.lst [a, b, c, d, e]] 0 1 x = some [.lst [a, x, c, d, e]] := rfl
theorem put2 (a b c d e x : P) : putAt [.lst [a, b, c, d, e]] 0 2 x = some [.lst [a, b, x, d, e]] := rfl
theorem put3 (a b c d e x : P) : putAt [.lst [a, b, c, d, e]] 0 3 x = some [.lst [a, b, c, x, e]] := rfl
end MP

set_option Elab.async false
set_option linter.all false
set_option maxRecDepth 100000
set_option autoImplicit false
/-! MP20: loops and comprehensions as lists. -/
namespace MP
open PySem
theorem bind_ex {α β : Type} (e : Exn) (S : Sto) (f : α → Sto → Res β) : (Res.ex e S : Res α).bind f = .ex e S := rfl
theorem lft_ex {α : Type} (L : Loc) (e : Exn) (S : Sto) (k : α → Sto → XR) : lft L (.ex e S) k = some (.exc e L, S) := rfl
theorem q_and' (C : Cl) (L : Loc) (S : Sto) (a b : ME) : ev C (.and a b) L S = (ev C a L S).bind fun x S => (match (rd S x).bind truth with
    | some true => ev C b L S
    | some false => .ok x S
    | none => .bad) := rfl
theorem q_or' (C : Cl) (L : Loc) (S : Sto) (a b : ME) : ev C (.or a b) L S = (ev C a L S).bind fun x S => (match (rd S x).bind truth with
    | some true => .ok x S
    | some false => ev C b L S
    | none => .bad) := rfl
theorem q_cmp2 (C : Cl) (L : Loc) (S : Sto) (op op' : COp) (a b c : ME) : ev C (.cmp2 op op' a b c) L S = (ev C a L S).bind fun x S => (ev C b L S).bind fun y S => (match (rd S x).bind fun p => (rd S y).bind fun q => cop op p q with
    | some true => (ev C c L S).bind fun z S => ofO ((rd S y).bind fun p => (rd S z).bind fun q => (cop op' p q).map fun k => W.p (.bl k)) S
    | some false => .ok (.p (.bl false)) S
    | none => .bad) := rfl
theorem q_mth (C : Cl) (L : Loc) (S : Sto) (o : ME) (m : Str) (es : MEs) : ev C (.mth o m es) L S = (ev C o L S).bind fun x S => (match clsOf S m x with
    | some c => if C.hasM c m = true then (evs C es L S).bind fun ws S => C.met c m (x :: ws) S else .bad
    | none => .bad) := rfl
theorem q_mk (C : Cl) (L : Loc) (S : Sto) (c : Str) (es : MEs) : ev C (.mk c es) L S = (evs C es L S).bind fun ws S => (C.ini c (.ref S.length :: ws) (S ++ [.ins c []])).bind fun w S' => (match w with
    | .p .non => .ok (.ref S.length) S'
    | _ => .bad) := rfl
theorem q_ir2 (C : Cl) (L : Loc) (S : Sto) (a b : ME) : evI C (.r2 a b) L S = (ev C a L S).bind fun x S => (ev C b L S).bind fun y S => ofO ((rd S x).bind fun p => (rd S y).bind fun q => rng2 p q) S := rfl
theorem q_new (C : Cl) (L : Loc) (S : Sto) (i : Nat) (e : ME) : exs C (.new i e) L S = lft L (ev C e L S) fun w S => (match w with
    | .p (.lst l) => some (.nx (L.set i (some (.ref S.length))), S ++ [.lst l])
    | _ => none) := rfl
theorem q_app (C : Cl) (L : Loc) (S : Sto) (o e : ME) : exs C (.app o e) L S = lft L (ev C o L S) fun w S => (match w with
    | .ref n => (match S[n]? with
      | some (.lst _) => lft L (ev C e L S) fun v S => (match v with
        | .p x => (match pushAt S n x with
          | some S => some (.nx L, S)
          | none => none)
        | _ => none)
      | _ => none)
    | _ => none) := rfl
theorem q_fset (C : Cl) (L : Loc) (S : Sto) (o : ME) (f : Str) (e : ME) : exs C (.fset o f e) L S = lft L (ev C e L S) fun w S => lft L (ev C o L S) fun v S => (match putF S f w v with
    | some S => some (.nx L, S)
    | none => none) := rfl
theorem q_faug (C : Cl) (L : Loc) (S : Sto) (o : ME) (f : Str) (e : ME) : exs C (.faug o f e) L S = lft L (ev C o L S) fun v S => (match attOf S f v with
    | some (.p (.int i)) => lft L (ev C e L S) fun w S' => (match w with
      | .p (.int j) => if clsAt S v = clsAt S' v then (match putF S' f (.p (.int (i + j))) v with
        | some S' => some (.nx L, S')
        | none => none) else none
      | _ => none)
    | _ => none) := rfl
theorem q_raise (C : Cl) (L : Loc) (S : Sto) (c : Str) (e : ME) : exs C (.raise c e) L S = lft L (ev C e L S) fun _ S => some (.exc ⟨c, []⟩ L, S) := rfl
theorem q_tryR (C : Cl) (L : Loc) (S : Sto) (b : MSs) (c : Str) (q : P) : exs C (.tryR b c q) L S = (match exss C b L S with
    | some (.exc e L', S') => (match C.sub e.cls c with
      | some true => some (.ret (.p q), S')
      | some false => some (.exc e L', S')
      | none => none)
    | r => r) := rfl
theorem q_aug (C : Cl) (L : Loc) (S : Sto) (i : Nat) (op : BOp) (e : ME) : exs C (.aug i op e) L S = (match L[i]? with
    | some (some (.p p)) => lft L (ev C e L S) fun w S => (match (rd S w).bind fun q => iopP op p q with
      | some r => some (.nx (L.set i (some (.p r))), S)
      | none => none)
    | _ => none) := rfl
theorem q_comp' (C : Cl) (L : Loc) (S : Sto) (own : List Nat) (tg : MG) (src : MI) (tt : MT) (elt : ME) : ev C (.comp own tg src tt elt) L S = (evI C src L S).bind fun l S => noEx ((compF (turnF C L own tg tt elt) l [] S).bind fun r S => .ok (W.p (.lst r)) S) := rfl
theorem fuel_gt {n : Nat} (h : n ≤ 1000000) : n < fuel := by unfold fuel; omega
section
variable {C : Cl} {L L' : Loc} {S S' : Sto} {s : MS} {r a b : MSs} {t : MT} {w : W} {x : Exn}
theorem x_nx (e : exs C s L S = some (.nx L', S')) : exss C (.cons s r) L S = exss C r L' S' := by rw [q_scons, e]
theorem x_ret (e : exs C s L S = some (.ret w, S')) : exss C (.cons s r) L S = some (.ret w, S') := by rw [q_scons, e]
theorem x_exc (e : exs C s L S = some (.exc x L', S')) : exss C (.cons s r) L S = some (.exc x L', S') := by rw [q_scons, e]
theorem x_ift (e : evT C t L S = .ok true S') : exs C (.ifs t a b) L S = exss C a L S' := by rw [q_ifs, e, lft_ok, if_pos rfl]
theorem x_iff (e : evT C t L S = .ok false S') : exs C (.ifs t a b) L S = exss C b L S' := by rw [q_ifs, e, lft_ok, if_neg (by decide)]
theorem x_ifnx (e : evT C t L S = .ok false S') : exs C (.ifs t a .nil) L S = some (.nx L, S') := by rw [x_iff e, q_snil]
end
/-- a while that goes on n turns -/
theorem whl_run {t : Loc → Sto → Res Bool} {b : Loc → Sto → XR} {n : Nat} (I : Nat → Loc) (J : Nat → Sto) (ht : ∀ k, k < n → t (I k) (J k) = .ok true (J k)) (hb : ∀ k, k < n → b (I k) (J k) = some (.nx (I (k + 1)), J (k + 1)))
    (he : t (I n) (J n) = .ok false (J n)) : ∀ m, n < m → whlF t b m (I 0) (J 0) = some (.nx (I n), J n) := by
  have key : ∀ (r k m : Nat), k + r = n → r < m → whlF t b m (I k) (J k) = some (.nx (I n), J n) := by
    intro r
    induction r with
    | zero =>
      intro k m hk hm
      have hk : k = n := by omega
      subst hk
      obtain ⟨m, rfl⟩ := Nat.exists_eq_succ_of_ne_zero (Nat.ne_of_gt hm)
      unfold whlF
      rw [he]
      rfl
    | succ r ih =>
      intro k m hk hm
      obtain ⟨m, rfl⟩ := Nat.exists_eq_succ_of_ne_zero (n := m) (by omega)
      unfold whlF
      rw [ht k (by omega), lft_ok, if_pos rfl, hb k (by omega)]
      exact ih (k + 1) m (by omega) (by omega)
  intro m hm
  exact key n 0 m (by omega) hm
/-- a for with what holds at each turn -/
theorem for_inv {tg : MG} {b : Loc → Sto → XR} (I : Nat → Loc → Sto → Prop) : ∀ (xs : List P) (k : Nat) (L : Loc) (S : Sto), (∀ j x L S, xs[j]? = some x → I (k + j) L S → ∃ L2 L' S', bindT L tg x = some L2 ∧ b L2 S = some (.nx L', S') ∧ I (k + j + 1) L' S') → I k L S →
    ∃ L' S', forF tg b xs L S = some (.nx L', S') ∧ I (k + xs.length) L' S'
  | [], k, L, S, _, h => ⟨L, S, rfl, h⟩
  | x :: xs, k, L, S, st, h => by
    obtain ⟨L2, L', S', e1, e2, h'⟩ := st 0 x L S rfl h
    obtain ⟨L3, S3, e3, h3⟩ := for_inv I xs (k + 1) L' S' (fun j y L S hj hI => by
      have := st (j + 1) y L S (by simpa using hj) (by rw [show k + (j + 1) = k + 1 + j from by omega]; exact hI)
      rw [show k + (j + 1) + 1 = k + 1 + j + 1 from by omega] at this
      exact this) h'
    refine ⟨L3, S3, ?_, by rw [List.length_cons, show k + (xs.length + 1) = k + 1 + xs.length from by omega]; exact h3⟩
    unfold forF
    rw [e1]
    dsimp only
    rw [e2]
    exact e3
theorem cut_small {l : List P} (h : l.length ≤ 100000) : cut sizeLine l = some l := if_pos (by rw [sizeLine_eq]; omega)
theorem q_lof (C : Cl) (L : Loc) (S : Sto) (a : ME) : ev C (.lof a) L S = (ev C a L S).bind fun x S => ofO ((rdL S x).map fun l => W.p (.lst l)) S := rfl
theorem q_retL (C : Cl) (L : Loc) (S : Sto) (e : ME) : exs C (.retL e) L S = lft L (ev C e L S) fun w S => (match w with
    | .p (.lst l) => some (.ret (.ref S.length), S ++ [.lst l])
    | _ => none) := rfl
theorem rng1_ok {j : Int} (h : inR j = true) : rng1 (.int j) = some (rangeP 0 j.toNat) := if_pos h
/-- range(a): j is a letter here, else the kernel reckons with 2 ^ 62 by ones -/
theorem ev_r1 {C : Cl} {a : ME} {L : Loc} {S S' : Sto} {j : Int} (e : ev C a L S = .ok (.p (.int j)) S') (h : inR j = true) : evI C (.r1 a) L S = .ok (rangeP 0 j.toNat) S' := by
  rw [q_ir1, e, bind_ok]
  simp only [rd, Option.bind_some, rng1_ok h, ofO_some]
/-- [..] without draws -/
theorem comp_pure {turn : P → Sto → Res (Option P)} {S : Sto} (g : P → Option P) : ∀ (xs acc : List P), (∀ x ∈ xs, turn x S = .ok (g x) S) → acc.length + xs.length ≤ sizeLine → compF turn xs acc S = .ok (acc ++ xs.filterMap g) S
  | [], acc, _, _ => by simp [compF]
  | x :: xs, acc, h, hl => by
    rw [List.length_cons] at hl
    unfold compF
    rw [h x (by simp)]
    have h' : ∀ y ∈ xs, turn y S = .ok (g y) S := fun y m => h y (List.mem_cons_of_mem _ m)
    cases hg : g x with
    | none =>
      show compF turn xs acc S = _
      rw [comp_pure g xs acc h' (by omega), List.filterMap_cons_none hg]
    | some y =>
      show (if acc.length < sizeLine then compF turn xs (acc ++ [y]) S else .bad) = _
      rw [if_pos (by omega), comp_pure g xs (acc ++ [y]) h' (by rw [List.length_append]; simp; omega), List.filterMap_cons_some hg, List.append_assoc]
      rfl
end MP

set_option Elab.async false
set_option linter.all false
set_option maxRecDepth 100000
set_option autoImplicit false
namespace K51
open MP PySem PySem.Spec PyProof.Rows L2 C8
def top (i : Nat) : Stmt := PySem.Challenge.pw_everyregular_k51_faulty_texts_of_values.main.body.getD i (.Pass ⟨0, 0, 0, 0⟩)
def inC (i j : Nat) : Stmt := (clsBody (top i)).getD j (.Pass ⟨0, 0, 0, 0⟩)
def cons : List (Str × P) := [("DIGITS", .str "0123456789"), ("WORD", .str "abcdefghijklmnopqrstuvwxyz0123456789"), ("DEEPEST", .int 320), ("MOST_SIGNS", .int 200000), ("MOST_DIGITS", .int 6)]
def fnN : List Str := ["write_value", "read_value", "_law_same", "_law_pool", "_law_spread", "_law_draw", "_law_pick", "_law_garbled", "_law_some_of", "_law_machine", "_law_fork", "_law_pattern", "_law_plain_words", "_law_choices", "_law_chooser", "_law_word_sign", "_law_whole_text", "_law_taken", "_law_value_of", "_law_told", "law"]
def mkN : List Str := ["ValueReader"]
def flds : List Str := ["text", "at"]
def excN : List Str := ["RegularError", "BadText"]
abbrev kc : Kc := kcOf cons fnN mkN flds excN
def d_write_value : He.DefD := ⟨("write_value", none), "write_value", "write_value", fnArgs (top 9), fnBody (top 9), fnScope (top 9), [], []⟩
def p_write_value : List Str := ["value"]
def n_write_value : List Str := ["value", "part"]
def l_write_value : List Str := []
def m_write_value : MF := mfOf kc d_write_value p_write_value n_write_value l_write_value false
def d_read_value : He.DefD := ⟨("read_value", none), "read_value", "read_value", fnArgs (top 11), fnBody (top 11), fnScope (top 11), [], []⟩
def p_read_value : List Str := ["text"]
def n_read_value : List Str := ["text", "reader", "found"]
def l_read_value : List Str := []
def m_read_value : MF := mfOf kc d_read_value p_read_value n_read_value l_read_value false
def d__law_same : He.DefD := ⟨("_law_same", none), "_law_same", "_law_same", fnArgs (top 13), fnBody (top 13), fnScope (top 13), [], []⟩
def p__law_same : List Str := ["actual", "due"]
def n__law_same : List Str := ["actual", "due", "k"]
def l__law_same : List Str := []
def m__law_same : MF := mfOf kc d__law_same p__law_same n__law_same l__law_same false
def d__law_pool : He.DefD := ⟨("_law_pool", none), "_law_pool", "_law_pool", fnArgs (top 14), fnBody (top 14), fnScope (top 14), [], []⟩
def p__law_pool : List Str := ["script"]
def n__law_pool : List Str := ["script", "salt", "cell"]
def l__law_pool : List Str := ["return"]
def m__law_pool : MF := mfOf kc d__law_pool p__law_pool n__law_pool l__law_pool true
def d__law_spread : He.DefD := ⟨("_law_spread", none), "_law_spread", "_law_spread", fnArgs (top 15), fnBody (top 15), fnScope (top 15), [], []⟩
def p__law_spread : List Str := ["cell"]
def n__law_spread : List Str := ["cell", "mixed", "total", "k"]
def l__law_spread : List Str := []
def m__law_spread : MF := mfOf kc d__law_spread p__law_spread n__law_spread l__law_spread false
def d__law_draw : He.DefD := ⟨("_law_draw", none), "_law_draw", "_law_draw", fnArgs (top 16), fnBody (top 16), fnScope (top 16), [], []⟩
def p__law_draw : List Str := ["pool", "many"]
def n__law_draw : List Str := ["pool", "many", "cell", "mixed", "value"]
def l__law_draw : List Str := ["pool"]
def m__law_draw : MF := mfOf kc d__law_draw p__law_draw n__law_draw l__law_draw false
def d__law_pick : He.DefD := ⟨("_law_pick", none), "_law_pick", "_law_pick", fnArgs (top 17), fnBody (top 17), fnScope (top 17), [], []⟩
def p__law_pick : List Str := ["pool", "items"]
def n__law_pick : List Str := ["pool", "items"]
def l__law_pick : List Str := []
def m__law_pick : MF := mfOf kc d__law_pick p__law_pick n__law_pick l__law_pick false
def d__law_garbled : He.DefD := ⟨("_law_garbled", none), "_law_garbled", "_law_garbled", fnArgs (top 18), fnBody (top 18), fnScope (top 18), [], []⟩
def p__law_garbled : List Str := ["pool", "text", "signs"]
def n__law_garbled : List Str := ["pool", "text", "signs", "at", "turn", "sign"]
def l__law_garbled : List Str := []
def m__law_garbled : MF := mfOf kc d__law_garbled p__law_garbled n__law_garbled l__law_garbled false
def d__law_some_of : He.DefD := ⟨("_law_some_of", none), "_law_some_of", "_law_some_of", fnArgs (top 19), fnBody (top 19), fnScope (top 19), [], []⟩
def p__law_some_of : List Str := ["pool", "many"]
def n__law_some_of : List Str := ["pool", "many", "k"]
def l__law_some_of : List Str := []
def m__law_some_of : MF := mfOf kc d__law_some_of p__law_some_of n__law_some_of l__law_some_of false
def d__law_machine : He.DefD := ⟨("_law_machine", none), "_law_machine", "_law_machine", fnArgs (top 20), fnBody (top 20), fnScope (top 20), [], []⟩
def p__law_machine : List Str := ["pool", "most"]
def n__law_machine : List Str := ["pool", "most", "many", "k"]
def l__law_machine : List Str := []
def m__law_machine : MF := mfOf kc d__law_machine p__law_machine n__law_machine l__law_machine false
def d__law_fork : He.DefD := ⟨("_law_fork", none), "_law_fork", "_law_fork", fnArgs (top 21), fnBody (top 21), fnScope (top 21), [], []⟩
def p__law_fork : List Str := ["pool", "most"]
def n__law_fork : List Str := ["pool", "most", "many", "edges", "k"]
def l__law_fork : List Str := []
def m__law_fork : MF := mfOf kc d__law_fork p__law_fork n__law_fork l__law_fork false
def d__law_pattern : He.DefD := ⟨("_law_pattern", none), "_law_pattern", "_law_pattern", fnArgs (top 22), fnBody (top 22), fnScope (top 22), [], []⟩
def p__law_pattern : List Str := ["pool", "deep", "words"]
def n__law_pattern : List Str := ["pool", "deep", "words", "word"]
def l__law_pattern : List Str := []
def m__law_pattern : MF := mfOf kc d__law_pattern p__law_pattern n__law_pattern l__law_pattern false
def d__law_plain_words : He.DefD := ⟨("_law_plain_words", none), "_law_plain_words", "_law_plain_words", fnArgs (top 23), fnBody (top 23), fnScope (top 23), [], []⟩
def p__law_plain_words : List Str := []
def n__law_plain_words : List Str := []
def l__law_plain_words : List Str := []
def m__law_plain_words : MF := mfOf kc d__law_plain_words p__law_plain_words n__law_plain_words l__law_plain_words false
def d__law_choices : He.DefD := ⟨("_law_choices", none), "_law_choices", "_law_choices", fnArgs (top 24), fnBody (top 24), fnScope (top 24), [], []⟩
def p__law_choices : List Str := ["pool", "many"]
def n__law_choices : List Str := ["pool", "many", "sets", "j", "k"]
def l__law_choices : List Str := []
def m__law_choices : MF := mfOf kc d__law_choices p__law_choices n__law_choices l__law_choices false
def d__law_chooser : He.DefD := ⟨("_law_chooser", none), "_law_chooser", "_law_chooser", fnArgs (top 25), fnBody (top 25), fnScope (top 25), [], []⟩
def p__law_chooser : List Str := ["pool", "most"]
def n__law_chooser : List Str := ["pool", "most", "many", "k"]
def l__law_chooser : List Str := []
def m__law_chooser : MF := mfOf kc d__law_chooser p__law_chooser n__law_chooser l__law_chooser false
def d__law_word_sign : He.DefD := ⟨("_law_word_sign", none), "_law_word_sign", "_law_word_sign", fnArgs (top 26), fnBody (top 26), fnScope (top 26), [], []⟩
def p__law_word_sign : List Str := ["sign"]
def n__law_word_sign : List Str := ["sign"]
def l__law_word_sign : List Str := []
def m__law_word_sign : MF := mfOf kc d__law_word_sign p__law_word_sign n__law_word_sign l__law_word_sign false
def d__law_whole_text : He.DefD := ⟨("_law_whole_text", none), "_law_whole_text", "_law_whole_text", fnArgs (top 27), fnBody (top 27), fnScope (top 27), [], []⟩
def p__law_whole_text : List Str := ["token"]
def n__law_whole_text : List Str := ["token", "body", "one"]
def l__law_whole_text : List Str := []
def m__law_whole_text : MF := mfOf kc d__law_whole_text p__law_whole_text n__law_whole_text l__law_whole_text false
def d__law_taken : He.DefD := ⟨("_law_taken", none), "_law_taken", "_law_taken", fnArgs (top 28), fnBody (top 28), fnScope (top 28), [], []⟩
def p__law_taken : List Str := ["text", "at", "deep"]
def n__law_taken : List Str := ["text", "at", "deep", "sign", "end", "found", "here", "part"]
def l__law_taken : List Str := []
def m__law_taken : MF := mfOf kc d__law_taken p__law_taken n__law_taken l__law_taken false
def d__law_value_of : He.DefD := ⟨("_law_value_of", none), "_law_value_of", "_law_value_of", fnArgs (top 29), fnBody (top 29), fnScope (top 29), [], []⟩
def p__law_value_of : List Str := ["text"]
def n__law_value_of : List Str := ["text", "part"]
def l__law_value_of : List Str := []
def m__law_value_of : MF := mfOf kc d__law_value_of p__law_value_of n__law_value_of l__law_value_of false
def d__law_told : He.DefD := ⟨("_law_told", none), "_law_told", "_law_told", fnArgs (top 30), fnBody (top 30), fnScope (top 30), [], []⟩
def p__law_told : List Str := ["text"]
def n__law_told : List Str := ["text"]
def l__law_told : List Str := []
def m__law_told : MF := mfOf kc d__law_told p__law_told n__law_told l__law_told false
def d_law : He.DefD := ⟨("law", none), "law", "law", fnArgs (top 31), fnBody (top 31), fnScope (top 31), [], []⟩
def p_law : List Str := ["script"]
def n_law : List Str := ["script", "pool", "tried", "k", "text", "j"]
def l_law : List Str := []
def m_law : MF := mfOf kc d_law p_law n_law l_law false
def d_ValueReader____init__ : He.DefD := ⟨("ValueReader", some "__init__"), "__init__", "ValueReader.__init__", fnArgs (inC 10 0), fnBody (inC 10 0), fnScope (inC 10 0), [], []⟩
def p_ValueReader____init__ : List Str := ["self", "text"]
def n_ValueReader____init__ : List Str := ["self", "text"]
def l_ValueReader____init__ : List Str := []
def m_ValueReader____init__ : MF := mfOf kc d_ValueReader____init__ p_ValueReader____init__ n_ValueReader____init__ l_ValueReader____init__ false
def d_ValueReader__next_sign : He.DefD := ⟨("ValueReader", some "next_sign"), "next_sign", "ValueReader.next_sign", fnArgs (inC 10 1), fnBody (inC 10 1), fnScope (inC 10 1), [], []⟩
def p_ValueReader__next_sign : List Str := ["self"]
def n_ValueReader__next_sign : List Str := ["self"]
def l_ValueReader__next_sign : List Str := []
def m_ValueReader__next_sign : MF := mfOf kc d_ValueReader__next_sign p_ValueReader__next_sign n_ValueReader__next_sign l_ValueReader__next_sign false
def d_ValueReader__run_of : He.DefD := ⟨("ValueReader", some "run_of"), "run_of", "ValueReader.run_of", fnArgs (inC 10 2), fnBody (inC 10 2), fnScope (inC 10 2), [], []⟩
def p_ValueReader__run_of : List Str := ["self", "signs"]
def n_ValueReader__run_of : List Str := ["self", "signs", "begin"]
def l_ValueReader__run_of : List Str := []
def m_ValueReader__run_of : MF := mfOf kc d_ValueReader__run_of p_ValueReader__run_of n_ValueReader__run_of l_ValueReader__run_of false
def d_ValueReader__number : He.DefD := ⟨("ValueReader", some "number"), "number", "ValueReader.number", fnArgs (inC 10 3), fnBody (inC 10 3), fnScope (inC 10 3), [], []⟩
def p_ValueReader__number : List Str := ["self"]
def n_ValueReader__number : List Str := ["self", "sign", "digits"]
def l_ValueReader__number : List Str := []
def m_ValueReader__number : MF := mfOf kc d_ValueReader__number p_ValueReader__number n_ValueReader__number l_ValueReader__number false
def d_ValueReader__parts : He.DefD := ⟨("ValueReader", some "parts"), "parts", "ValueReader.parts", fnArgs (inC 10 4), fnBody (inC 10 4), fnScope (inC 10 4), [], []⟩
def p_ValueReader__parts : List Str := ["self", "deep"]
def n_ValueReader__parts : List Str := ["self", "deep", "found"]
def l_ValueReader__parts : List Str := ["found"]
def m_ValueReader__parts : MF := mfOf kc d_ValueReader__parts p_ValueReader__parts n_ValueReader__parts l_ValueReader__parts false
def d_ValueReader__value : He.DefD := ⟨("ValueReader", some "value"), "value", "ValueReader.value", fnArgs (inC 10 5), fnBody (inC 10 5), fnScope (inC 10 5), [], []⟩
def p_ValueReader__value : List Str := ["self", "deep"]
def n_ValueReader__value : List Str := ["self", "deep", "sign"]
def l_ValueReader__value : List Str := []
def m_ValueReader__value : MF := mfOf kc d_ValueReader__value p_ValueReader__value n_ValueReader__value l_ValueReader__value false
def fns : List (Str × MF) := [("write_value", m_write_value), ("read_value", m_read_value), ("_law_same", m__law_same), ("_law_pool", m__law_pool), ("_law_spread", m__law_spread), ("_law_draw", m__law_draw), ("_law_pick", m__law_pick), ("_law_garbled", m__law_garbled), ("_law_some_of", m__law_some_of), ("_law_machine", m__law_machine), ("_law_fork", m__law_fork), ("_law_pattern", m__law_pattern), ("_law_plain_words", m__law_plain_words), ("_law_choices", m__law_choices), ("_law_chooser", m__law_chooser), ("_law_word_sign", m__law_word_sign), ("_law_whole_text", m__law_whole_text), ("_law_taken", m__law_taken), ("_law_value_of", m__law_value_of), ("_law_told", m__law_told), ("law", m_law)]
def mets : List ((Str × Str) × MF) := [(("ValueReader", "__init__"), m_ValueReader____init__), (("ValueReader", "next_sign"), m_ValueReader__next_sign), (("ValueReader", "run_of"), m_ValueReader__run_of), (("ValueReader", "number"), m_ValueReader__number), (("ValueReader", "parts"), m_ValueReader__parts), (("ValueReader", "value"), m_ValueReader__value)]
def objN : List Str := ["ValueReader"]
def subs : List ((Str × Str) × Bool) := [(("RegularError", "RegularError"), true), (("RegularError", "BadText"), false), (("BadText", "RegularError"), true), (("BadText", "BadText"), true)]
abbrev T : Tb := tbOf fns mets subs
abbrev kt : Kt := ⟨kc, T⟩
abbrev gd (K : PySem.W.Frag) : Gd := gdOf K excN objN
def dfn : List He.DefD := [d_write_value, d_read_value, d__law_same, d__law_pool, d__law_spread, d__law_draw, d__law_pick, d__law_garbled, d__law_some_of, d__law_machine, d__law_fork, d__law_pattern, d__law_plain_words, d__law_choices, d__law_chooser, d__law_word_sign, d__law_whole_text, d__law_taken, d__law_value_of, d__law_told, d_law, d_ValueReader____init__, d_ValueReader__next_sign, d_ValueReader__run_of, d_ValueReader__number, d_ValueReader__parts, d_ValueReader__value]
def fa : List He.Fa := [.str "DIGITS" "0123456789", .str "WORD" "abcdefghijklmnopqrstuvwxyz0123456789", .int "DEEPEST" (320), .int "MOST_SIGNS" (200000), .int "MOST_DIGITS" (6), .free "len", .free "all", .free "any", .free "int", .free "tuple", .free "str", .free "bool", .free "list", .free "isinstance", .free "range", .free "sorted", .free "set", .noat "ValueReader" "text", .noat "ValueReader" "at", .cls "ValueReader", .glo "ValueReader", .mkr "ValueReader", .exc "RegularError", .glo "RegularError", .exc "BadText", .glo "BadText", .exm "RegularError" "RegularError" true, .exm "RegularError" "BadText" false, .exm "BadText" "RegularError" true, .exm "BadText" "BadText" true, .glo "write_value", .glo "read_value", .glo "_law_same", .glo "_law_pool", .glo "_law_spread", .glo "_law_draw", .glo "_law_pick", .glo "_law_garbled", .glo "_law_some_of", .glo "_law_machine", .glo "_law_fork", .glo "_law_pattern", .glo "_law_plain_words", .glo "_law_choices", .glo "_law_chooser", .glo "_law_word_sign", .glo "_law_whole_text", .glo "_law_taken", .glo "_law_value_of", .glo "_law_told", .glo "law", .meth "ValueReader" "__init__", .meth "ValueReader" "next_sign", .meth "ValueReader" "run_of", .meth "ValueReader" "number", .meth "ValueReader" "parts", .meth "ValueReader" "value"]
theorem a_con {K : PySem.W.Frag} {h : Heap} {mg : Str → Option Value} (X : K.In h) (Gm : h.Ns mainGlobals mg) (c : He.SaysD fa dfn K) : MP.AllP (fun p : Str × P => ∃ v u, mg p.1 = some u ∧ RelV v u ∧ ∀ ρ H, Rl K ρ H p.2 v) cons := ⟨(let ⟨t, e⟩ := He.str_ok X Gm (c.fact 0 rfl); ⟨.str _, _, e, ⟨t, rfl⟩, fun _ _ => .str _ (by decide +kernel)⟩), (let ⟨t, e⟩ := He.str_ok X Gm (c.fact 1 rfl); ⟨.str _, _, e, ⟨t, rfl⟩, fun _ _ => .str _ (by decide +kernel)⟩), (let ⟨t, e⟩ := He.int_ok X Gm (c.fact 2 rfl); ⟨.int _, _, e, ⟨t, rfl⟩, fun _ _ => .int _⟩), (let ⟨t, e⟩ := He.int_ok X Gm (c.fact 3 rfl); ⟨.int _, _, e, ⟨t, rfl⟩, fun _ _ => .int _⟩), (let ⟨t, e⟩ := He.int_ok X Gm (c.fact 4 rfl); ⟨.int _, _, e, ⟨t, rfl⟩, fun _ _ => .int _⟩), trivial⟩
theorem a_bi {K : PySem.W.Frag} {h : Heap} {mg : Str → Option Value} (X : K.In h) (Gm : h.Ns mainGlobals mg) (c : He.SaysD fa dfn K) : MP.AllP (fun x : Str => mg x = none) bis := ⟨He.free_ok X Gm (c.fact 5 rfl), He.free_ok X Gm (c.fact 6 rfl), He.free_ok X Gm (c.fact 7 rfl), He.free_ok X Gm (c.fact 8 rfl), He.free_ok X Gm (c.fact 9 rfl), He.free_ok X Gm (c.fact 10 rfl), He.free_ok X Gm (c.fact 11 rfl), He.free_ok X Gm (c.fact 12 rfl), He.free_ok X Gm (c.fact 13 rfl), He.free_ok X Gm (c.fact 14 rfl), He.free_ok X Gm (c.fact 15 rfl), He.free_ok X Gm (c.fact 16 rfl), trivial⟩
theorem a_att {K : PySem.W.Frag} {h : Heap} {mg : Str → Option Value} (X : K.In h) (Gm : h.Ns mainGlobals mg) (c : He.SaysD fa dfn K) : MP.AllP (fun f : Str => MP.AllP (fun o : Str => NoAttr K (He.ga K o) f) objN) flds := ⟨⟨He.noat_ok (c.fact 17 rfl), trivial⟩, ⟨He.noat_ok (c.fact 18 rfl), trivial⟩, trivial⟩
theorem a_obj {K : PySem.W.Frag} {h : Heap} {mg : Str → Option Value} (X : K.In h) (Gm : h.Ns mainGlobals mg) (c : He.SaysD fa dfn K) : MP.AllP (fun o : Str => Cls K (He.ga K o)) objN := ⟨He.cls_ok (c.fact 19 rfl), trivial⟩
theorem a_mk {K : PySem.W.Frag} {h : Heap} {mg : Str → Option Value} (X : K.In h) (Gm : h.Ns mainGlobals mg) (c : He.SaysD fa dfn K) : MP.AllP (fun o : Str => mg o = some (.ref (He.ga K o)) ∧ Mk K (He.ga K o) (He.ma K (He.ga K o) "__init__")) objN := ⟨⟨He.glo_ok X Gm (c.fact 20 rfl), He.mkr_ok (c.fact 21 rfl)⟩, trivial⟩
theorem a_exc {K : PySem.W.Frag} {h : Heap} {mg : Str → Option Value} (X : K.In h) (Gm : h.Ns mainGlobals mg) (c : He.SaysD fa dfn K) : MP.AllP (fun x : Str => ExcF K mg (gd K) x) excN := ⟨exc1 X Gm (c.fact 22 rfl) (c.fact 23 rfl) (by decide +kernel), exc1 X Gm (c.fact 24 rfl) (c.fact 25 rfl) (by decide +kernel), trivial⟩
theorem a_cat {K : PySem.W.Frag} {h : Heap} {mg : Str → Option Value} (X : K.In h) (Gm : h.Ns mainGlobals mg) (c : He.SaysD fa dfn K) : MP.AllP (fun x : Str => ∃ Ca, (gd K).cls x = some Ca ∧ mg x = some (.ref Ca)) excN := ⟨⟨He.ga K "RegularError", cls_in (by decide +kernel), He.glo_ok X Gm (c.fact 23 rfl)⟩, ⟨He.ga K "BadText", cls_in (by decide +kernel), He.glo_ok X Gm (c.fact 25 rfl)⟩, trivial⟩
theorem a_sub {K : PySem.W.Frag} {h : Heap} {mg : Str → Option Value} (X : K.In h) (Gm : h.Ns mainGlobals mg) (c : He.SaysD fa dfn K) : MP.AllP (fun x : (Str × Str) × Bool => PySem.W.exmOne K (.ref (He.ga K x.1.1)) (.ref (He.ga K x.1.2)) = some x.2) subs := ⟨He.exm_ok (c.fact 26 rfl), He.exm_ok (c.fact 27 rfl), He.exm_ok (c.fact 28 rfl), He.exm_ok (c.fact 29 rfl), trivial⟩
theorem a_fn {K : PySem.W.Frag} {h : Heap} {mg : Str → Option Value} (X : K.In h) (Gm : h.Ns mainGlobals mg) (c : He.SaysD fa dfn K) : MP.AllP (fun x : Str × MF => ∃ a fd ps, DefOk kt K a fd x.1 x.1 x.2 ps ∧ mg x.1 = some (.ref a) ∧ PySem.W.keepIn K (.ref a) = true) fns := ⟨(let ⟨fd, F⟩ := c.def_ 0 rfl; ⟨_, fd, p_write_value, defOk_of F (by decide +kernel) (by decide +kernel) (fun _ _ _ _ _ _ us hl => match us, hl with | [_], _ => rfl), He.glo_ok X Gm (c.fact 30 rfl), F.kp⟩), (let ⟨fd, F⟩ := c.def_ 1 rfl; ⟨_, fd, p_read_value, defOk_of F (by decide +kernel) (by decide +kernel) (fun _ _ _ _ _ _ us hl => match us, hl with | [_], _ => rfl), He.glo_ok X Gm (c.fact 31 rfl), F.kp⟩), (let ⟨fd, F⟩ := c.def_ 2 rfl; ⟨_, fd, p__law_same, defOk_of F (by decide +kernel) (by decide +kernel) (fun _ _ _ _ _ _ us hl => match us, hl with | [_, _], _ => rfl), He.glo_ok X Gm (c.fact 32 rfl), F.kp⟩), (let ⟨fd, F⟩ := c.def_ 3 rfl; ⟨_, fd, p__law_pool, defOk_of F (by decide +kernel) (by decide +kernel) (fun _ _ _ _ _ _ us hl => match us, hl with | [_], _ => rfl), He.glo_ok X Gm (c.fact 33 rfl), F.kp⟩), (let ⟨fd, F⟩ := c.def_ 4 rfl; ⟨_, fd, p__law_spread, defOk_of F (by decide +kernel) (by decide +kernel) (fun _ _ _ _ _ _ us hl => match us, hl with | [_], _ => rfl), He.glo_ok X Gm (c.fact 34 rfl), F.kp⟩), (let ⟨fd, F⟩ := c.def_ 5 rfl; ⟨_, fd, p__law_draw, defOk_of F (by decide +kernel) (by decide +kernel) (fun _ _ _ _ _ _ us hl => match us, hl with | [_, _], _ => rfl), He.glo_ok X Gm (c.fact 35 rfl), F.kp⟩), (let ⟨fd, F⟩ := c.def_ 6 rfl; ⟨_, fd, p__law_pick, defOk_of F (by decide +kernel) (by decide +kernel) (fun _ _ _ _ _ _ us hl => match us, hl with | [_, _], _ => rfl), He.glo_ok X Gm (c.fact 36 rfl), F.kp⟩), (let ⟨fd, F⟩ := c.def_ 7 rfl; ⟨_, fd, p__law_garbled, defOk_of F (by decide +kernel) (by decide +kernel) (fun _ _ _ _ _ _ us hl => match us, hl with | [_, _, _], _ => rfl), He.glo_ok X Gm (c.fact 37 rfl), F.kp⟩), (let ⟨fd, F⟩ := c.def_ 8 rfl; ⟨_, fd, p__law_some_of, defOk_of F (by decide +kernel) (by decide +kernel) (fun _ _ _ _ _ _ us hl => match us, hl with | [_, _], _ => rfl), He.glo_ok X Gm (c.fact 38 rfl), F.kp⟩), (let ⟨fd, F⟩ := c.def_ 9 rfl; ⟨_, fd, p__law_machine, defOk_of F (by decide +kernel) (by decide +kernel) (fun _ _ _ _ _ _ us hl => match us, hl with | [_, _], _ => rfl), He.glo_ok X Gm (c.fact 39 rfl), F.kp⟩), (let ⟨fd, F⟩ := c.def_ 10 rfl; ⟨_, fd, p__law_fork, defOk_of F (by decide +kernel) (by decide +kernel) (fun _ _ _ _ _ _ us hl => match us, hl with | [_, _], _ => rfl), He.glo_ok X Gm (c.fact 40 rfl), F.kp⟩), (let ⟨fd, F⟩ := c.def_ 11 rfl; ⟨_, fd, p__law_pattern, defOk_of F (by decide +kernel) (by decide +kernel) (fun _ _ _ _ _ _ us hl => match us, hl with | [_, _, _], _ => rfl), He.glo_ok X Gm (c.fact 41 rfl), F.kp⟩), (let ⟨fd, F⟩ := c.def_ 12 rfl; ⟨_, fd, p__law_plain_words, defOk_of F (by decide +kernel) (by decide +kernel) (fun _ _ _ _ _ _ us hl => match us, hl with | [], _ => rfl), He.glo_ok X Gm (c.fact 42 rfl), F.kp⟩), (let ⟨fd, F⟩ := c.def_ 13 rfl; ⟨_, fd, p__law_choices, defOk_of F (by decide +kernel) (by decide +kernel) (fun _ _ _ _ _ _ us hl => match us, hl with | [_, _], _ => rfl), He.glo_ok X Gm (c.fact 43 rfl), F.kp⟩), (let ⟨fd, F⟩ := c.def_ 14 rfl; ⟨_, fd, p__law_chooser, defOk_of F (by decide +kernel) (by decide +kernel) (fun _ _ _ _ _ _ us hl => match us, hl with | [_, _], _ => rfl), He.glo_ok X Gm (c.fact 44 rfl), F.kp⟩), (let ⟨fd, F⟩ := c.def_ 15 rfl; ⟨_, fd, p__law_word_sign, defOk_of F (by decide +kernel) (by decide +kernel) (fun _ _ _ _ _ _ us hl => match us, hl with | [_], _ => rfl), He.glo_ok X Gm (c.fact 45 rfl), F.kp⟩), (let ⟨fd, F⟩ := c.def_ 16 rfl; ⟨_, fd, p__law_whole_text, defOk_of F (by decide +kernel) (by decide +kernel) (fun _ _ _ _ _ _ us hl => match us, hl with | [_], _ => rfl), He.glo_ok X Gm (c.fact 46 rfl), F.kp⟩), (let ⟨fd, F⟩ := c.def_ 17 rfl; ⟨_, fd, p__law_taken, defOk_of F (by decide +kernel) (by decide +kernel) (fun _ _ _ _ _ _ us hl => match us, hl with | [_, _, _], _ => rfl), He.glo_ok X Gm (c.fact 47 rfl), F.kp⟩), (let ⟨fd, F⟩ := c.def_ 18 rfl; ⟨_, fd, p__law_value_of, defOk_of F (by decide +kernel) (by decide +kernel) (fun _ _ _ _ _ _ us hl => match us, hl with | [_], _ => rfl), He.glo_ok X Gm (c.fact 48 rfl), F.kp⟩), (let ⟨fd, F⟩ := c.def_ 19 rfl; ⟨_, fd, p__law_told, defOk_of F (by decide +kernel) (by decide +kernel) (fun _ _ _ _ _ _ us hl => match us, hl with | [_], _ => rfl), He.glo_ok X Gm (c.fact 49 rfl), F.kp⟩), (let ⟨fd, F⟩ := c.def_ 20 rfl; ⟨_, fd, p_law, defOk_of F (by decide +kernel) (by decide +kernel) (fun _ _ _ _ _ _ us hl => match us, hl with | [_], _ => rfl), He.glo_ok X Gm (c.fact 50 rfl), F.kp⟩), trivial⟩
theorem a_met {K : PySem.W.Frag} {h : Heap} {mg : Str → Option Value} (X : K.In h) (Gm : h.Ns mainGlobals mg) (c : He.SaysD fa dfn K) : MP.AllP (fun x : (Str × Str) × MF => ∃ Ca g fd ps qual, (gd K).ob x.1.1 = some Ca ∧ Meth K Ca x.1.2 g ∧ DefOk kt K g fd x.1.2 qual x.2 ps) mets := ⟨(let ⟨fd, F⟩ := c.def_ 21 rfl; ⟨He.ga K "ValueReader", _, fd, p_ValueReader____init__, _, ob_in (by decide +kernel), He.meth_ok (c.fact 51 rfl), defOk_of F (by decide +kernel) (by decide +kernel) (fun _ _ _ _ _ _ us hl => match us, hl with | [_, _], _ => rfl)⟩), (let ⟨fd, F⟩ := c.def_ 22 rfl; ⟨He.ga K "ValueReader", _, fd, p_ValueReader__next_sign, _, ob_in (by decide +kernel), He.meth_ok (c.fact 52 rfl), defOk_of F (by decide +kernel) (by decide +kernel) (fun _ _ _ _ _ _ us hl => match us, hl with | [_], _ => rfl)⟩), (let ⟨fd, F⟩ := c.def_ 23 rfl; ⟨He.ga K "ValueReader", _, fd, p_ValueReader__run_of, _, ob_in (by decide +kernel), He.meth_ok (c.fact 53 rfl), defOk_of F (by decide +kernel) (by decide +kernel) (fun _ _ _ _ _ _ us hl => match us, hl with | [_, _], _ => rfl)⟩), (let ⟨fd, F⟩ := c.def_ 24 rfl; ⟨He.ga K "ValueReader", _, fd, p_ValueReader__number, _, ob_in (by decide +kernel), He.meth_ok (c.fact 54 rfl), defOk_of F (by decide +kernel) (by decide +kernel) (fun _ _ _ _ _ _ us hl => match us, hl with | [_], _ => rfl)⟩), (let ⟨fd, F⟩ := c.def_ 25 rfl; ⟨He.ga K "ValueReader", _, fd, p_ValueReader__parts, _, ob_in (by decide +kernel), He.meth_ok (c.fact 55 rfl), defOk_of F (by decide +kernel) (by decide +kernel) (fun _ _ _ _ _ _ us hl => match us, hl with | [_, _], _ => rfl)⟩), (let ⟨fd, F⟩ := c.def_ 26 rfl; ⟨He.ga K "ValueReader", _, fd, p_ValueReader__value, _, ob_in (by decide +kernel), He.meth_ok (c.fact 56 rfl), defOk_of F (by decide +kernel) (by decide +kernel) (fun _ _ _ _ _ _ us hl => match us, hl with | [_, _], _ => rfl)⟩), trivial⟩
theorem gr {K : PySem.W.Frag} {h : Heap} {mg : Str → Option Value} (X : K.In h) (Gm : h.Ns mainGlobals mg) (c : He.SaysD fa dfn K) : Gr K mg (gd K) kt :=
  gr_of (by decide +kernel) ⟨by decide +kernel, trivial⟩ (a_con X Gm c) (a_bi X Gm c) (a_att X Gm c) (a_obj X Gm c) (a_mk X Gm c) (a_exc X Gm c) (a_cat X Gm c) (a_sub X Gm c) (a_fn X Gm c) (a_met X Gm c)
end K51

set_option Elab.async false
set_option linter.all false
set_option maxRecDepth 100000
set_option maxHeartbeats 0
namespace K51
open MP PySem PySem.Spec PyProof.Rows L2 C8
def names0 : List PySem.Str := ["RegularError", "BadText", "DIGITS", "WORD", "DEEPEST", "MOST_SIGNS", "MOST_DIGITS", "write_value", "ValueReader", "read_value", "_law_same", "_law_pool", "_law_spread", "_law_draw", "_law_pick", "_law_garbled", "_law_some_of", "_law_machine", "_law_fork", "_law_pattern", "_law_plain_words", "_law_choices", "_law_chooser", "_law_word_sign", "_law_whole_text", "_law_taken", "_law_value_of", "_law_told"]
def names : List PySem.Str := names0
abbrev RR : PySem.W.OpenRow := PySem.W.OpenLaw.row PySem.Challenge.rw_everyregular_k51_faulty_texts_of_values
abbrev hk : PySem.W.Hook := He.hookD 5 fa dfn
def obs (s : PySem.W.SharedT) : He.AlD := He.obsDG 5 fa dfn (HandSHeadRun.getT s)
theorem obs_eq (s : PySem.W.SharedT) : obs s = hk.obs s.abs := He.obsDG_eq (HandSHeadRun.getT_eq s)
theorem run (w : World) : HandSHeadRun.RunEq RR (PySem.W.view RR.prog [31]) hk obs 4000 names w := by
  intro os
  kernel_rfl
end K51

set_option Elab.async false
set_option linter.all false
set_option maxRecDepth 100000
set_option autoImplicit false
namespace K51
open MP PySem
def b_write_value : MSs := (.cons (.ifs (.val (.isi (.var 0) .tuple))
 (.cons (.ret (.bin .add (.bin .add (.lit (.str "[")) (.join " " (.comp [1] (.name 1) (.ex (.var 0)) .yes (.call "write_value" (.cons (.var 1) .nil))))) (.lit (.str "]"))))
 .nil)
 .nil)
 (.cons (.ret (.bif .str (.cons (.var 0) .nil)))
 .nil))
def b_read_value : MSs := (.cons (.ifs (.val (.cmp .gt (.bif .len (.cons (.var 0) .nil)) (.glo "MOST_SIGNS" (.int (200000)))))
 (.cons (.raise "BadText" (.var 0))
 .nil)
 .nil)
 (.cons (.set (.g (.name 1)) (.mk "ValueReader" (.cons (.var 0) .nil)))
 (.cons (.set (.g (.name 2)) (.mth (.var 1) "value" (.cons (.glo "DEEPEST" (.int (320))) .nil)))
 (.cons (.ifs (.val (.cmp .lt (.att (.var 1) "at") (.bif .len (.cons (.var 0) .nil))))
 (.cons (.raise "BadText" (.var 0))
 .nil)
 .nil)
 (.cons (.ret (.var 2))
 .nil)))))
def b__law_same : MSs := (.cons (.ifs (.or (.val (.isi (.var 1) .tuple)) (.val (.isi (.var 1) .list)))
 (.cons (.ifs (.or (.val (.cmp .ne (.isi (.var 1) .tuple) (.isi (.var 0) .tuple))) (.or (.val (.cmp .ne (.isi (.var 1) .list) (.isi (.var 0) .list))) (.val (.cmp .ne (.bif .len (.cons (.var 0) .nil)) (.bif .len (.cons (.var 1) .nil))))))
 (.cons (.ret (.lit (.bl false)))
 .nil)
 .nil)
 (.cons (.ret (.cmp .eq (.bif .len (.cons (.comp [2] (.name 2) (.r1 (.bif .len (.cons (.var 1) .nil))) (.not (.val (.call "_law_same" (.cons (.idx (.var 0) (.var 2)) (.cons (.idx (.var 1) (.var 2)) .nil))))) (.var 2)) .nil)) (.lit (.int (0)))))
 .nil))
 .nil)
 (.cons (.ifs (.val (.cmp .is_ (.var 1) (.lit .non)))
 (.cons (.ret (.cmp .is_ (.var 0) (.lit .non)))
 .nil)
 .nil)
 (.cons (.ifs (.or (.val (.isi (.var 1) .bool)) (.val (.isi (.var 0) .bool)))
 (.cons (.ret (.and (.isi (.var 1) .bool) (.and (.isi (.var 0) .bool) (.cmp .eq (.var 0) (.var 1)))))
 .nil)
 .nil)
 (.cons (.ifs (.val (.isi (.var 1) .int))
 (.cons (.ret (.and (.isi (.var 0) .int) (.cmp .eq (.var 0) (.var 1))))
 .nil)
 .nil)
 (.cons (.ret (.and (.isi (.var 0) .str) (.and (.isi (.var 1) .str) (.cmp .eq (.var 0) (.var 1)))))
 .nil)))))
def b__law_pool : MSs := (.cons (.set (.g (.name 1)) (.lit (.int (7))))
 (.cons (.for_ (.name 2) (.ex (.slc (.var 0) .non (.som (.lit (.int (63))))))
 (.cons (.set (.g (.name 1)) (.bin .mod (.bif .int (.cons (.bin .add (.bin .mul (.var 1) (.lit (.int (31)))) (.var 2)) .nil)) (.lit (.int (1000003)))))
 .nil))
 (.cons (.retL (.lst (.cons (.lof (.var 0)) (.cons (.lit (.int (0))) (.cons (.lit (.int (0))) (.cons (.lit (.int (0))) (.cons (.var 1) .nil)))))))
 .nil)))
def b__law_spread : MSs := (.cons (.set (.g (.name 1)) (.bin .mod (.bif .int (.cons (.var 0) .nil)) (.lit (.int (2147483647)))))
 (.cons (.set (.g (.name 2)) (.lit (.int (1))))
 (.cons (.for_ (.name 3) (.r1 (.lit (.int (4))))
 (.cons (.set (.g (.name 1)) (.bin .mod (.bif .int (.cons (.bin .add (.bin .add (.bin .mul (.var 1) (.lit (.int (48271)))) (.lit (.int (12345)))) (.var 3)) .nil)) (.lit (.int (2147483647)))))
 (.cons (.set (.g (.name 2)) (.bin .add (.bin .mul (.var 2) (.lit (.int (2147483647)))) (.var 1)))
 .nil)))
 (.cons (.ret (.var 2))
 .nil))))
def b__law_draw : MSs := (.cons (.ifs (.and (.val (.cmp .le (.idx (.var 0) (.lit (.int (2)))) (.lit (.int (0))))) (.val (.cmp .lt (.idx (.var 0) (.lit (.int (1)))) (.bif .len (.cons (.idx (.var 0) (.lit (.int (0)))) .nil)))))
 (.cons (.set (.g (.name 2)) (.idx (.idx (.var 0) (.lit (.int (0)))) (.idx (.var 0) (.lit (.int (1))))))
 (.cons (.set (.sub (.var 0) (.lit (.int (1)))) (.bin .add (.idx (.var 0) (.lit (.int (1)))) (.lit (.int (1)))))
 (.cons (.set (.sub (.var 0) (.lit (.int (2)))) (.var 2))
 (.cons (.ifs (.val (.cmp .lt (.var 2) (.lit (.int (1000000000000000000)))))
 (.cons (.set (.sub (.var 0) (.lit (.int (2)))) (.call "_law_spread" (.cons (.var 2) .nil)))
 .nil)
 .nil)
 .nil))))
 .nil)
 (.cons (.set (.sub (.var 0) (.lit (.int (3)))) (.bin .add (.idx (.var 0) (.lit (.int (3)))) (.lit (.int (1)))))
 (.cons (.ifs (.val (.cmp .le (.idx (.var 0) (.lit (.int (2)))) (.lit (.int (0)))))
 (.cons (.set (.g (.name 3)) (.bin .mod (.bif .int (.cons (.bin .add (.bin .add (.bin .mul (.idx (.var 0) (.lit (.int (4)))) (.lit (.int (48271)))) (.bin .mul (.idx (.var 0) (.lit (.int (3)))) (.lit (.int (69621))))) (.lit (.int (1)))) .nil)) (.lit (.int (2147483647)))))
 (.cons (.set (.g (.name 3)) (.bin .mod (.bif .int (.cons (.bin .add (.bin .mul (.var 3) (.lit (.int (16807)))) (.idx (.var 0) (.lit (.int (3))))) .nil)) (.lit (.int (2147483629)))))
 (.cons (.ret (.bin .mod (.bin .fdiv (.var 3) (.lit (.int (5)))) (.var 1)))
 .nil)))
 .nil)
 (.cons (.set (.g (.name 4)) (.bin .mod (.bif .int (.cons (.idx (.var 0) (.lit (.int (2)))) .nil)) (.var 1)))
 (.cons (.set (.sub (.var 0) (.lit (.int (2)))) (.bin .fdiv (.idx (.var 0) (.lit (.int (2)))) (.var 1)))
 (.cons (.ret (.var 4))
 .nil))))))
def b__law_pick : MSs := (.cons (.ret (.idx (.var 1) (.call "_law_draw" (.cons (.var 0) (.cons (.bif .len (.cons (.var 1) .nil)) .nil)))))
 .nil)
def b__law_garbled : MSs := (.cons (.set (.g (.name 3)) (.call "_law_draw" (.cons (.var 0) (.cons (.bin .add (.bif .len (.cons (.var 1) .nil)) (.lit (.int (1)))) .nil))))
 (.cons (.set (.g (.name 4)) (.call "_law_draw" (.cons (.var 0) (.cons (.lit (.int (4))) .nil))))
 (.cons (.set (.g (.name 5)) (.call "_law_pick" (.cons (.var 0) (.cons (.var 2) .nil))))
 (.cons (.ifs (.val (.cmp .eq (.var 4) (.lit (.int (0)))))
 (.cons (.ret (.bin .add (.bin .add (.slc (.var 1) .non (.som (.var 3))) (.var 5)) (.slc (.var 1) (.som (.var 3)) .non)))
 .nil)
 .nil)
 (.cons (.ifs (.val (.cmp .eq (.var 4) (.lit (.int (1)))))
 (.cons (.ret (.bin .add (.slc (.var 1) .non (.som (.var 3))) (.slc (.var 1) (.som (.bin .add (.var 3) (.lit (.int (1))))) .non)))
 .nil)
 .nil)
 (.cons (.ifs (.val (.cmp .eq (.var 4) (.lit (.int (2)))))
 (.cons (.ret (.bin .add (.bin .add (.slc (.var 1) .non (.som (.var 3))) (.var 5)) (.slc (.var 1) (.som (.bin .add (.var 3) (.lit (.int (1))))) .non)))
 .nil)
 .nil)
 (.cons (.ret (.bin .add (.bin .add (.slc (.var 1) .non (.som (.var 3))) (.slc (.var 1) (.som (.var 3)) (.som (.bin .add (.var 3) (.lit (.int (1))))))) (.slc (.var 1) (.som (.var 3)) .non)))
 .nil)))))))
def b__law_some_of : MSs := (.cons (.ret (.bif .tuple (.cons (.comp [2] (.name 2) (.r1 (.var 1)) (.val (.cmp .eq (.call "_law_draw" (.cons (.var 0) (.cons (.lit (.int (2))) .nil))) (.lit (.int (0))))) (.var 2)) .nil)))
 .nil)
def b__law_machine : MSs := (.cons (.set (.g (.name 2)) (.bin .add (.lit (.int (1))) (.call "_law_draw" (.cons (.var 0) (.cons (.var 1) .nil)))))
 (.cons (.ret (.tup (.cons (.bif .tuple (.cons (.comp [3] (.name 3) (.r1 (.var 2)) .yes (.tup (.cons (.call "_law_draw" (.cons (.var 0) (.cons (.var 2) .nil))) (.cons (.call "_law_draw" (.cons (.var 0) (.cons (.var 2) .nil))) .nil)))) .nil)) (.cons (.call "_law_some_of" (.cons (.var 0) (.cons (.var 2) .nil))) .nil))))
 .nil))
def b__law_fork : MSs := (.cons (.set (.g (.name 2)) (.bin .add (.lit (.int (1))) (.call "_law_draw" (.cons (.var 0) (.cons (.var 1) .nil)))))
 (.cons (.set (.g (.name 3)) (.srt (.comp [4] (.name 4) (.r1 (.call "_law_draw" (.cons (.var 0) (.cons (.bin .add (.bin .mul (.lit (.int (2))) (.var 2)) (.lit (.int (2)))) .nil)))) .yes (.tup (.cons (.call "_law_draw" (.cons (.var 0) (.cons (.var 2) .nil))) (.cons (.call "_law_draw" (.cons (.var 0) (.cons (.lit (.int (3))) .nil))) (.cons (.call "_law_draw" (.cons (.var 0) (.cons (.var 2) .nil))) .nil)))))))
 (.cons (.ret (.tup (.cons (.var 2) (.cons (.call "_law_some_of" (.cons (.var 0) (.cons (.var 2) .nil))) (.cons (.bif .tuple (.cons (.var 3) .nil)) (.cons (.call "_law_some_of" (.cons (.var 0) (.cons (.var 2) .nil))) .nil))))))
 .nil)))
def b__law_pattern : MSs := (.cons (.ifs (.or (.val (.cmp .eq (.var 1) (.lit (.int (0))))) (.val (.cmp .eq (.call "_law_draw" (.cons (.var 0) (.cons (.lit (.int (5))) .nil))) (.lit (.int (0))))))
 (.cons (.ret (.call "_law_pick" (.cons (.var 0) (.cons (.lst (.cons (.tup (.cons (.lit (.str "letter")) (.cons (.lit (.int (0))) .nil))) (.cons (.tup (.cons (.lit (.str "letter")) (.cons (.lit (.int (1))) .nil))) (.cons (.tup (.cons (.lit (.str "letter")) (.cons (.lit (.int (0))) .nil))) (.cons (.tup (.cons (.lit (.str "letter")) (.cons (.lit (.int (1))) .nil))) (.cons (.tup (.cons (.lit (.str "blank")) .nil)) (.cons (.tup (.cons (.lit (.str "none")) .nil)) .nil))))))) .nil))))
 .nil)
 .nil)
 (.cons (.set (.g (.name 3)) (.call "_law_pick" (.cons (.var 0) (.cons (.var 2) .nil))))
 (.cons (.ifs (.val (.cmp .in_ (.var 3) (.tup (.cons (.lit (.str "again")) (.cons (.lit (.str "not")) .nil)))))
 (.cons (.ret (.tup (.cons (.var 3) (.cons (.call "_law_pattern" (.cons (.var 0) (.cons (.bin .sub (.var 1) (.lit (.int (1)))) (.cons (.var 2) .nil)))) .nil))))
 .nil)
 .nil)
 (.cons (.ret (.tup (.cons (.var 3) (.cons (.call "_law_pattern" (.cons (.var 0) (.cons (.bin .sub (.var 1) (.lit (.int (1)))) (.cons (.var 2) .nil)))) (.cons (.call "_law_pattern" (.cons (.var 0) (.cons (.bin .sub (.var 1) (.lit (.int (1)))) (.cons (.var 2) .nil)))) .nil)))))
 .nil))))
def b__law_plain_words : MSs := (.cons (.ret (.lst (.cons (.lit (.str "row")) (.cons (.lit (.str "row")) (.cons (.lit (.str "either")) (.cons (.lit (.str "again")) .nil))))))
 .nil)
def b__law_choices : MSs := (.cons (.set (.g (.name 2)) (.comp [4] (.name 4) (.r1 (.call "_law_draw" (.cons (.var 0) (.cons (.lit (.int (3))) .nil)))) .yes (.bif .tuple (.cons (.srt (.comp [3] (.name 3) (.r1 (.call "_law_draw" (.cons (.var 0) (.cons (.lit (.int (3))) .nil)))) .yes (.call "_law_draw" (.cons (.var 0) (.cons (.var 1) .nil))))) .nil))))
 (.cons (.ret (.bif .tuple (.cons (.srt (.var 2)) .nil)))
 .nil))
def b__law_chooser : MSs := (.cons (.set (.g (.name 2)) (.bin .add (.lit (.int (1))) (.call "_law_draw" (.cons (.var 0) (.cons (.var 1) .nil)))))
 (.cons (.ret (.tup (.cons (.call "_law_choices" (.cons (.var 0) (.cons (.var 2) .nil))) (.cons (.bif .tuple (.cons (.comp [3] (.name 3) (.r1 (.var 2)) .yes (.tup (.cons (.call "_law_choices" (.cons (.var 0) (.cons (.var 2) .nil))) (.cons (.call "_law_choices" (.cons (.var 0) (.cons (.var 2) .nil))) .nil)))) .nil)) (.cons (.call "_law_some_of" (.cons (.var 0) (.cons (.var 2) .nil))) .nil)))))
 .nil))
def b__law_word_sign : MSs := (.cons (.ret (.and (.cmp .ne (.var 0) (.lit (.str ""))) (.cmp .in_ (.var 0) (.lit (.str "abcdefghijklmnopqrstuvwxyz0123456789")))))
 .nil)
def b__law_whole_text : MSs := (.cons (.set (.g (.name 1)) (.ife (.val (.cmp .eq (.slc (.var 0) .non (.som (.lit (.int (1))))) (.lit (.str "-")))) (.slc (.var 0) (.som (.lit (.int (1)))) .non) (.var 0)))
 (.cons (.ifs (.or (.val (.cmp .eq (.var 1) (.lit (.str "")))) (.or (.val (.cmp .gt (.bif .len (.cons (.var 1) .nil)) (.lit (.int (6))))) (.val (.cmp .gt (.bif .len (.cons (.comp [2] (.name 2) (.ex (.var 1)) (.val (.cmp .notin (.var 2) (.lit (.str "0123456789")))) (.var 2)) .nil)) (.lit (.int (0)))))))
 (.cons (.ret (.lit (.bl false)))
 .nil)
 .nil)
 (.cons (.ret (.or (.cmp .ne (.idx (.var 1) (.lit (.int (0)))) (.lit (.str "0"))) (.cmp .eq (.var 0) (.lit (.str "0")))))
 .nil)))
def b__law_taken : MSs := (.cons (.set (.g (.name 3)) (.slc (.var 0) (.som (.var 1)) (.som (.bin .add (.var 1) (.lit (.int (1)))))))
 (.cons (.ifs (.and (.val (.call "_law_word_sign" (.cons (.var 3) .nil))) (.val (.cmp .notin (.var 3) (.lit (.str "0123456789")))))
 (.cons (.set (.g (.name 4)) (.var 1))
 (.cons (.whl (.and (.val (.cmp .lt (.var 4) (.bif .len (.cons (.var 0) .nil)))) (.val (.call "_law_word_sign" (.cons (.idx (.var 0) (.var 4)) .nil))))
 (.cons (.set (.g (.name 4)) (.bin .add (.var 4) (.lit (.int (1)))))
 .nil))
 (.cons (.ret (.tup (.cons (.slc (.var 0) (.som (.var 1)) (.som (.var 4))) (.cons (.var 4) .nil))))
 .nil)))
 .nil)
 (.cons (.ifs (.val (.cmp .ne (.var 3) (.lit (.str "["))))
 (.cons (.set (.g (.name 4)) (.bin .add (.var 1) (.lit (.int (1)))))
 (.cons (.whl (.and (.val (.cmp .lt (.var 4) (.bif .len (.cons (.var 0) .nil)))) (.val (.cmp .in_ (.idx (.var 0) (.var 4)) (.lit (.str "0123456789")))))
 (.cons (.set (.g (.name 4)) (.bin .add (.var 4) (.lit (.int (1)))))
 .nil))
 (.cons (.ret (.ife (.val (.call "_law_whole_text" (.cons (.slc (.var 0) (.som (.var 1)) (.som (.var 4))) .nil))) (.tup (.cons (.bif .int (.cons (.slc (.var 0) (.som (.var 1)) (.som (.var 4))) .nil)) (.cons (.var 4) .nil))) (.lit .non)))
 .nil)))
 .nil)
 (.cons (.ifs (.val (.cmp .eq (.var 2) (.lit (.int (0)))))
 (.cons (.ret (.lit .non))
 .nil)
 .nil)
 (.cons (.ifs (.val (.cmp .eq (.slc (.var 0) (.som (.bin .add (.var 1) (.lit (.int (1))))) (.som (.bin .add (.var 1) (.lit (.int (2)))))) (.lit (.str "]"))))
 (.cons (.ret (.tup (.cons (.tup .nil) (.cons (.bin .add (.var 1) (.lit (.int (2)))) .nil))))
 .nil)
 .nil)
 (.cons (.set (.g (.name 5)) (.tup .nil))
 (.cons (.set (.g (.name 6)) (.bin .add (.var 1) (.lit (.int (1)))))
 (.cons (.whl (.val (.lit (.bl true)))
 (.cons (.set (.g (.name 7)) (.call "_law_taken" (.cons (.var 0) (.cons (.var 6) (.cons (.bin .sub (.var 2) (.lit (.int (1)))) .nil)))))
 (.cons (.ifs (.val (.cmp .is_ (.var 7) (.lit .non)))
 (.cons (.ret (.lit .non))
 .nil)
 .nil)
 (.cons (.set (.g (.name 5)) (.bin .add (.var 5) (.tup (.cons (.idx (.var 7) (.lit (.int (0)))) .nil))))
 (.cons (.set (.g (.name 6)) (.idx (.var 7) (.lit (.int (1)))))
 (.cons (.ifs (.val (.cmp .eq (.slc (.var 0) (.som (.var 6)) (.som (.bin .add (.var 6) (.lit (.int (1)))))) (.lit (.str "]"))))
 (.cons (.ret (.tup (.cons (.var 5) (.cons (.bin .add (.var 6) (.lit (.int (1)))) .nil))))
 .nil)
 .nil)
 (.cons (.ifs (.val (.cmp .ne (.slc (.var 0) (.som (.var 6)) (.som (.bin .add (.var 6) (.lit (.int (1)))))) (.lit (.str " "))))
 (.cons (.ret (.lit .non))
 .nil)
 .nil)
 (.cons (.set (.g (.name 6)) (.bin .add (.var 6) (.lit (.int (1)))))
 .nil))))))))
 .nil))))))))
def b__law_value_of : MSs := (.cons (.set (.g (.name 1)) (.call "_law_taken" (.cons (.var 0) (.cons (.lit (.int (0))) (.cons (.lit (.int (320))) .nil)))))
 (.cons (.ret (.ife (.and (.val (.cmp .isnot (.var 1) (.lit .non))) (.val (.cmp .eq (.idx (.var 1) (.lit (.int (1)))) (.bif .len (.cons (.var 0) .nil))))) (.lst (.cons (.idx (.var 1) (.lit (.int (0)))) .nil)) (.lit .non)))
 .nil))
def b__law_told : MSs := (.cons (.tryR (.cons (.ret (.lst (.cons (.call "read_value" (.cons (.var 0) .nil)) .nil)))
 .nil) "BadText" .non)
 .nil)
def b_law : MSs := (.cons (.set (.g (.name 1)) (.call "_law_pool" (.cons (.var 0) .nil)))
 (.cons (.set (.g (.name 2)) (.lst (.cons (.lit (.str "")) (.cons (.lit (.str " ")) (.cons (.lit (.str "[")) (.cons (.lit (.str "]")) (.cons (.lit (.str "[]")) (.cons (.lit (.str "[ ]")) (.cons (.lit (.str "[1 ]")) (.cons (.lit (.str "[ 1]")) (.cons (.lit (.str "[1  2]")) (.cons (.lit (.str "[1 2")) (.cons (.lit (.str "1 2")) (.cons (.lit (.str "[1] ")) (.cons (.lit (.str " [1]")) (.cons (.lit (.str "[1][2]")) (.cons (.lit (.str "[[]")) (.cons (.lit (.str "[]]")) (.cons (.lit (.str "-")) (.cons (.lit (.str "-0")) (.cons (.lit (.str "00")) (.cons (.lit (.str "01")) (.cons (.lit (.str "-01")) (.cons (.lit (.str "1000000")) (.cons (.lit (.str "-999999")) .nil)))))))))))))))))))))))))
 (.cons (.set (.g (.name 2)) (.bin .add (.var 2) (.lst (.cons (.lit (.str "a")) (.cons (.lit (.str "A")) (.cons (.lit (.str "a1")) (.cons (.lit (.str "1a")) (.cons (.lit (.str "[a b]")) (.cons (.lit (.str "[a-1]")) (.cons (.lit (.str "[1,2]")) (.cons (.lit (.str "--1")) (.cons (.lit (.str "+1")) (.cons (.lit (.str "[1[2]]")) (.cons (.lit (.str "[[1]2]")) (.cons (.lit (.str "[[1]a]")) (.cons (.lit (.str "a_")) (.cons (.lit (.str "[a1a 1]")) .nil)))))))))))))))))
 (.cons (.set (.g (.name 2)) (.bin .add (.var 2) (.lst (.cons (.bin .add (.bin .mul (.lit (.str "[")) (.lit (.int (320)))) (.bin .mul (.lit (.str "]")) (.lit (.int (320))))) (.cons (.bin .add (.bin .mul (.lit (.str "[")) (.lit (.int (321)))) (.bin .mul (.lit (.str "]")) (.lit (.int (321))))) (.cons (.bin .mul (.lit (.str "[")) (.lit (.int (500)))) (.cons (.bin .add (.bin .add (.bin .mul (.lit (.str "[")) (.lit (.int (319)))) (.lit (.str "1"))) (.bin .mul (.lit (.str "]")) (.lit (.int (319))))) .nil)))))))
 (.cons (.for_ (.name 3) (.r1 (.lit (.int (6))))
 (.cons (.set (.g (.name 4)) (.call "write_value" (.cons (.call "_law_pick" (.cons (.var 1) (.cons (.lst (.cons (.call "_law_machine" (.cons (.var 1) (.cons (.lit (.int (3))) .nil))) (.cons (.call "_law_fork" (.cons (.var 1) (.cons (.lit (.int (3))) .nil))) (.cons (.call "_law_pattern" (.cons (.var 1) (.cons (.lit (.int (3))) (.cons (.call "_law_plain_words" .nil) .nil)))) (.cons (.call "_law_chooser" (.cons (.var 1) (.cons (.lit (.int (2))) .nil))) .nil))))) .nil))) .nil)))
 (.cons (.set (.g (.name 2)) (.bin .add (.bin .add (.var 2) (.comp [5] (.name 5) (.r1 (.lit (.int (4)))) .yes (.call "_law_garbled" (.cons (.var 1) (.cons (.var 4) (.cons (.lit (.str "[]0 1-a_9")) .nil)))))) (.lst (.cons (.var 4) (.cons (.bin .add (.var 4) (.lit (.str "]"))) (.cons (.bin .add (.bin .add (.lit (.str "[")) (.var 4)) (.lit (.str "]"))) (.cons (.bin .add (.var 4) (.lit (.str " 1"))) (.cons (.bin .add (.bin .add (.lit (.str "[")) (.var 4)) (.lit (.str " x]"))) .nil))))))))
 .nil)))
 (.cons (.for_ (.name 4) (.ex (.var 2))
 (.cons (.ifs (.not (.val (.call "_law_same" (.cons (.call "_law_told" (.cons (.var 4) .nil)) (.cons (.call "_law_value_of" (.cons (.var 4) .nil)) .nil)))))
 (.cons (.ret (.lit (.bl false)))
 .nil)
 .nil)
 .nil))
 (.cons (.ret (.lit (.bl true)))
 .nil)))))))
def b_ValueReader____init__ : MSs := (.cons (.fset (.var 0) "text" (.var 1))
 (.cons (.fset (.var 0) "at" (.lit (.int (0))))
 .nil))
def b_ValueReader__next_sign : MSs := (.cons (.ret (.slc (.att (.var 0) "text") (.som (.att (.var 0) "at")) (.som (.bin .add (.att (.var 0) "at") (.lit (.int (1)))))))
 .nil)
def b_ValueReader__run_of : MSs := (.cons (.set (.g (.name 2)) (.att (.var 0) "at"))
 (.cons (.whl (.and (.val (.cmp .ne (.mth (.var 0) "next_sign" .nil) (.lit (.str "")))) (.val (.cmp .in_ (.mth (.var 0) "next_sign" .nil) (.var 1))))
 (.cons (.faug (.var 0) "at" (.lit (.int (1))))
 .nil))
 (.cons (.ret (.slc (.att (.var 0) "text") (.som (.var 2)) (.som (.att (.var 0) "at"))))
 .nil)))
def b_ValueReader__number : MSs := (.cons (.set (.g (.name 1)) (.mth (.var 0) "next_sign" .nil))
 (.cons (.ifs (.val (.cmp .eq (.var 1) (.lit (.str "-"))))
 (.cons (.faug (.var 0) "at" (.lit (.int (1))))
 .nil)
 .nil)
 (.cons (.set (.g (.name 2)) (.mth (.var 0) "run_of" (.cons (.glo "DIGITS" (.str "0123456789")) .nil)))
 (.cons (.ifs (.or (.not (.val (.cmp2 .le .le (.lit (.int (1))) (.bif .len (.cons (.var 2) .nil)) (.glo "MOST_DIGITS" (.int (6)))))) (.and (.val (.cmp .eq (.idx (.var 2) (.lit (.int (0)))) (.lit (.str "0")))) (.or (.val (.cmp .gt (.bif .len (.cons (.var 2) .nil)) (.lit (.int (1))))) (.val (.cmp .eq (.var 1) (.lit (.str "-")))))))
 (.cons (.raise "BadText" (.att (.var 0) "text"))
 .nil)
 .nil)
 (.cons (.ret (.ife (.val (.cmp .eq (.var 1) (.lit (.str "-")))) (.neg (.bif .int (.cons (.var 2) .nil))) (.bif .int (.cons (.var 2) .nil))))
 .nil)))))
def b_ValueReader__parts : MSs := (.cons (.new 2 (.lst .nil))
 (.cons (.ifs (.val (.cmp .ne (.mth (.var 0) "next_sign" .nil) (.lit (.str "]"))))
 (.cons (.app (.var 2) (.mth (.var 0) "value" (.cons (.bin .sub (.var 1) (.lit (.int (1)))) .nil)))
 (.cons (.whl (.val (.cmp .eq (.mth (.var 0) "next_sign" .nil) (.lit (.str " "))))
 (.cons (.faug (.var 0) "at" (.lit (.int (1))))
 (.cons (.app (.var 2) (.mth (.var 0) "value" (.cons (.bin .sub (.var 1) (.lit (.int (1)))) .nil)))
 .nil)))
 .nil))
 .nil)
 (.cons (.ifs (.val (.cmp .ne (.mth (.var 0) "next_sign" .nil) (.lit (.str "]"))))
 (.cons (.raise "BadText" (.att (.var 0) "text"))
 .nil)
 .nil)
 (.cons (.faug (.var 0) "at" (.lit (.int (1))))
 (.cons (.ret (.bif .tuple (.cons (.var 2) .nil)))
 .nil)))))
def b_ValueReader__value : MSs := (.cons (.set (.g (.name 2)) (.mth (.var 0) "next_sign" .nil))
 (.cons (.ifs (.and (.val (.cmp .ne (.var 2) (.lit (.str "")))) (.and (.val (.cmp .in_ (.var 2) (.glo "WORD" (.str "abcdefghijklmnopqrstuvwxyz0123456789")))) (.val (.cmp .notin (.var 2) (.glo "DIGITS" (.str "0123456789"))))))
 (.cons (.ret (.mth (.var 0) "run_of" (.cons (.glo "WORD" (.str "abcdefghijklmnopqrstuvwxyz0123456789")) .nil)))
 .nil)
 .nil)
 (.cons (.ifs (.val (.cmp .ne (.var 2) (.lit (.str "["))))
 (.cons (.ret (.mth (.var 0) "number" .nil))
 .nil)
 .nil)
 (.cons (.ifs (.val (.cmp .eq (.var 1) (.lit (.int (0)))))
 (.cons (.raise "BadText" (.att (.var 0) "text"))
 .nil)
 .nil)
 (.cons (.faug (.var 0) "at" (.lit (.int (1))))
 (.cons (.ret (.mth (.var 0) "parts" (.cons (.var 1) .nil)))
 .nil))))))
theorem fn_run {n : Nat} {f : Str} {mf : MF} (e : fns.lookup f = some mf) (as : List W) (S : Sto) : (calls T (n + 1)).fn f as S = runF (calls T n) mf as S := by
  show (match fns.lookup f with | some mf => runF (calls T n) mf as S | none => .bad) = _
  rw [e]
theorem met_run {n : Nat} {c m : Str} {mf : MF} (e : mets.lookup (c, m) = some mf) (as : List W) (S : Sto) : (calls T (n + 1)).met c m as S = runF (calls T n) mf as S := by
  show (match mets.lookup (c, m) with | some mf => runF (calls T n) mf as S | none => .bad) = _
  rw [e]
theorem mb_spread : m__law_spread = ⟨1, 4, b__law_spread, false⟩ := by kernel_rfl
theorem lk_spread : fns.lookup ("_law_spread" : Str) = some m__law_spread := by kernel_rfl
theorem ev_spread (n : Nat) (c : Int) (S : Sto) (hS : S.all (closedO S.length) = true) : ∃ v, (calls T (n + 1)).fn "_law_spread" [.p (.int c)] S = .ok (.p (.int v)) S := by
  rw [fn_run lk_spread, mb_spread]
  suffices ∃ v, runF (calls T n) ⟨1, 4, b__law_spread, false⟩ [.p (.int c)] S = .ok (.p (.int v)) S from this
  have ht : trimS S.length S = some S := by unfold trimS; rw [List.take_length, if_pos hS]
  simp [runF, b__law_spread, exss, exs, lft, ev, evs, evI, evT, exG, rds, rd, bfn, bop, Res.bind, ofO, startL, bindT, forF, rng1, inR, rangeP, ht, fin, List.replicate, List.range, List.range.loop]

def pool (l : List Int) (i n c s : Int) : Sto := [.lst [.lst (l.map P.int), .int i, .int n, .int c, .int s]]
theorem at_map (l : List Int) (i : Int) (h0 : 0 ≤ i) (h1 : i < l.length) : ∃ x : Int, L2.atI (l.map P.int) i = some (.int x) := by
  obtain ⟨k, rfl⟩ := Int.eq_ofNat_of_zero_le h0
  have hk : k < l.length := by omega
  refine ⟨l[k], ?_⟩
  unfold L2.atI L2.ixN
  simp [hk]
theorem mb_draw : m__law_draw = ⟨2, 5, b__law_draw, false⟩ := by kernel_rfl
theorem lk_draw : fns.lookup ("_law_draw" : Str) = some m__law_draw := by kernel_rfl
theorem pool_closed (l : List Int) (i n c s : Int) : trimS 1 (pool l i n c s) = some (pool l i n c s) := by rfl

def sA : MS := match b__law_draw with
  | .cons a _ => a
  | .nil => .pass
def sB : MSs := match b__law_draw with
  | .cons _ b => b
  | .nil => .nil


theorem draw_a (n : Nat) (l : List Int) (i v c s m : Int) (h0 : 0 ≤ i) (b d : Option W) : ∃ (i' v' : Int) (a' : Option W), 0 ≤ i' ∧
    exs (calls T (n + 1)) sA [some (.ref 0), some (.p (.int m)), none, b, d] (pool l i v c s) = some (.nx [some (.ref 0), some (.p (.int m)), a', b, d], pool l i' v' c s) := by
  by_cases h1 : v ≤ 0
  · by_cases h2 : i < l.length
    · obtain ⟨x, hx⟩ := at_map l i h0 h2
      obtain ⟨y, hy⟩ := ev_spread n x (pool l (i + 1) x c s) rfl
      by_cases h3 : x < 1000000000000000000
      · refine ⟨i + 1, y, some (.p (.int x)), by omega, ?_⟩
        simp only [pool] at hy
        simp [sA, b__law_draw, pool, bind_ok, lft_ok, ofO_some, q_var, q_lit, q_cmp, q_idx, q_bif, q_call, q_nil, q_cons, q_val, q_tand, q_ifs, q_set, q_snil, q_scons, q_gn, q_sub, q_bin, q_ret, rd, rds, pidx, cop, truth, bfn, bop, ix0, ix1, ix2, ix3, ix4, put1, put2, put3, h1, h2, h3, hx, hy]
      · refine ⟨i + 1, x, some (.p (.int x)), by omega, ?_⟩
        simp [sA, b__law_draw, pool, bind_ok, lft_ok, ofO_some, q_var, q_lit, q_cmp, q_idx, q_bif, q_call, q_nil, q_cons, q_val, q_tand, q_ifs, q_set, q_snil, q_scons, q_gn, q_sub, q_bin, q_ret, rd, rds, pidx, cop, truth, bfn, bop, ix0, ix1, ix2, ix3, ix4, put1, put2, put3, h1, h2, h3, hx]
    · refine ⟨i, v, none, h0, ?_⟩
      simp [sA, b__law_draw, pool, bind_ok, lft_ok, ofO_some, q_var, q_lit, q_cmp, q_idx, q_bif, q_call, q_nil, q_cons, q_val, q_tand, q_ifs, q_set, q_snil, q_scons, q_gn, q_sub, q_bin, q_ret, rd, rds, pidx, cop, truth, bfn, bop, ix0, ix1, ix2, ix3, ix4, put1, put2, put3, h1, h2]
  · refine ⟨i, v, none, h0, ?_⟩
    simp [sA, b__law_draw, pool, bind_ok, lft_ok, ofO_some, q_var, q_lit, q_cmp, q_idx, q_bif, q_call, q_nil, q_cons, q_val, q_tand, q_ifs, q_set, q_snil, q_scons, q_gn, q_sub, q_bin, q_ret, rd, rds, pidx, cop, truth, bfn, bop, ix0, ix1, ix2, ix3, ix4, put1, put2, put3, h1]
theorem draw_b (n : Nat) (l : List Int) (i v c s m : Int) (hm : 0 < m) (hm2 : m < 1073741824) (a : Option W) : ∃ (r v' : Int) (L' : MP.Loc), 0 ≤ r ∧ r < m ∧
    exss (calls T (n + 1)) sB [some (.ref 0), some (.p (.int m)), a, none, none] (pool l i v c s) = some (.ret (.p (.int r)), pool l i v' (c + 1) s) := by
  by_cases h1 : v ≤ 0
  · refine ⟨((((s * 48271 + (c + 1) * 69621 + 1) % 2147483647) * 16807 + (c + 1)) % 2147483629) / 5 % m, v, [], Int.emod_nonneg _ (by omega), Int.emod_lt_of_pos _ hm, ?_⟩
    simp [sB, b__law_draw, pool, bind_ok, lft_ok, ofO_some, q_var, q_lit, q_cmp, q_idx, q_bif, q_call, q_nil, q_cons, q_val, q_tand, q_ifs, q_set, q_snil, q_scons, q_gn, q_sub, q_bin, q_ret, rd, rds, pidx, cop, truth, bfn, bop, ix0, ix1, ix2, ix3, ix4, put1, put2, put3, h1, hm, hm2]
  · refine ⟨v % m, v / m, [], Int.emod_nonneg _ (by omega), Int.emod_lt_of_pos _ hm, ?_⟩
    simp [sB, b__law_draw, pool, bind_ok, lft_ok, ofO_some, q_var, q_lit, q_cmp, q_idx, q_bif, q_call, q_nil, q_cons, q_val, q_tand, q_ifs, q_set, q_snil, q_scons, q_gn, q_sub, q_bin, q_ret, rd, rds, pidx, cop, truth, bfn, bop, ix0, ix1, ix2, ix3, ix4, put1, put2, put3, h1, hm, hm2]
theorem ev_draw (n : Nat) (l : List Int) (i v c s m : Int) (h0 : 0 ≤ i) (hm : 0 < m) (hm2 : m < 1073741824) : ∃ r i' v' : Int, 0 ≤ r ∧ r < m ∧ 0 ≤ i' ∧
    (calls T (n + 2)).fn "_law_draw" [.ref 0, .p (.int m)] (pool l i v c s) = .ok (.p (.int r)) (pool l i' v' (c + 1) s) := by
  obtain ⟨i', v1, a', k1, e1⟩ := draw_a n l i v c s m h0 none none
  obtain ⟨r, v', L', k2, k3, e2⟩ := draw_b n l i' v1 c s m hm hm2 a'
  refine ⟨r, i', v', k2, k3, k1, ?_⟩
  rw [fn_run lk_draw, mb_draw]
  have eb : b__law_draw = .cons sA sB := rfl
  have e : exss (calls T (n + 1)) b__law_draw (startL ⟨2, 5, b__law_draw, false⟩ [.ref 0, .p (.int m)]) (pool l i v c s) = some (.ret (.p (.int r)), pool l i' v' (c + 1) s) := by
    rw [eb, q_scons]
    show (match exs (calls T (n + 1)) sA [some (.ref 0), some (.p (.int m)), none, none, none] (pool l i v c s) with | some (.nx L', S') => exss (calls T (n + 1)) sB L' S' | r => r) = _
    rw [e1]
    exact e2
  exact (run_ret rfl e (show trimS (pool l i v c s).length (pool l i' v' (c + 1) s) = some (pool l i' v' (c + 1) s) from pool_closed _ _ _ _ _)).trans rfl
end K51

set_option Elab.async false
set_option linter.all false
set_option maxRecDepth 100000
set_option autoImplicit false
namespace K51
open MP PySem
/-- the pool alone stands in the store -/
def Pool (l : List Int) (S : MP.Sto) : Prop := ∃ i v c s : Int, 0 ≤ i ∧ S = pool l i v c s
theorem draw {l : List Int} {S : MP.Sto} (n : Nat) (h : Pool l S) {m : Int} (hm : 0 < m) (hm2 : m < 1073741824) : ∃ (r : Int) (S' : MP.Sto), 0 ≤ r ∧ r < m ∧ Pool l S' ∧ (calls T (n + 2)).fn "_law_draw" [.ref 0, .p (.int m)] S = .ok (.p (.int r)) S' := by
  obtain ⟨i, v, c, s, h0, rfl⟩ := h
  obtain ⟨r, i', v', k1, k2, k3, e⟩ := ev_draw n l i v c s m h0 hm hm2
  exact ⟨r, _, k1, k2, ⟨i', v', c + 1, s, k3, rfl⟩, e⟩
theorem pool_trim {l : List Int} {S S' : MP.Sto} (h : Pool l S) (h' : Pool l S') : trimS S.length S' = some S' := by
  obtain ⟨i, v, c, s, h0, rfl⟩ := h
  obtain ⟨i', v', c', s', h0', rfl⟩ := h'
  rfl
/-- [..] with draws -/
theorem comp_pool {l : List Int} {turn : P → MP.Sto → Res (Option P)} {Pr : P → Prop} : ∀ (xs acc : List P) (S : MP.Sto), Pool l S → (∀ x ∈ xs, ∀ S, Pool l S → ∃ y S', turn x S = .ok y S' ∧ Pool l S' ∧ ∀ z, y = some z → Pr z) →
    acc.length + xs.length ≤ sizeLine → ∃ zs S', compF turn xs acc S = .ok (acc ++ zs) S' ∧ Pool l S' ∧ (∀ z ∈ zs, Pr z) ∧ zs.length ≤ xs.length
  | [], acc, S, h, _, _ => ⟨[], S, by simp [compF], h, by simp, by simp⟩
  | x :: xs, acc, S, h, ht, hl => by
    obtain ⟨y, S1, e1, h1, p1⟩ := ht x (by simp) S h
    have ht' : ∀ x ∈ xs, ∀ S, Pool l S → ∃ y S', turn x S = .ok y S' ∧ Pool l S' ∧ ∀ z, y = some z → Pr z := fun x m => ht x (List.mem_cons_of_mem _ m)
    rw [List.length_cons] at hl
    unfold compF
    rw [e1]
    cases y with
    | none =>
      obtain ⟨zs, S2, e2, h2, p2, l2⟩ := comp_pool xs acc S1 h1 ht' (by omega)
      exact ⟨zs, S2, e2, h2, p2, by rw [List.length_cons]; omega⟩
    | some z =>
      obtain ⟨zs, S2, e2, h2, p2, l2⟩ := comp_pool xs (acc ++ [z]) S1 h1 ht' (by rw [List.length_append]; simp; omega)
      refine ⟨z :: zs, S2, ?_, h2, ?_, by rw [List.length_cons, List.length_cons]; omega⟩
      · show (if acc.length < sizeLine then compF turn xs (acc ++ [z]) S1 else .bad) = _
        rw [if_pos (by omega), e2, List.append_assoc]; rfl
      · intro w m
        rcases List.mem_cons.mp m with q | q
        · rw [q]; exact p1 z rfl
        · exact p2 w q
theorem mb_pick : m__law_pick = ⟨2, 2, b__law_pick, false⟩ := by kernel_rfl
theorem lk_pick : fns.lookup ("_law_pick" : Str) = some m__law_pick := by kernel_rfl
theorem at_nat {l : List P} {r : Int} (h0 : 0 ≤ r) (h1 : r < l.length) : ∃ x, L2.atI l r = some x ∧ x ∈ l := by
  obtain ⟨k, rfl⟩ := Int.eq_ofNat_of_zero_le h0
  have hk : k < l.length := by omega
  exact ⟨l[k], by unfold L2.atI L2.ixN; simp [hk], List.getElem_mem hk⟩
/-- _law_pick of a list -/
theorem pick {l : List Int} {S : MP.Sto} (n : Nat) (h : Pool l S) {q : List P} (hq : q ≠ []) (hq2 : q.length < 1073741824) : ∃ (x : P) (S' : MP.Sto), x ∈ q ∧ Pool l S' ∧ (calls T (n + 3)).fn "_law_pick" [.ref 0, .p (.lst q)] S = .ok (.p x) S' := by
  have hl : 0 < q.length := List.length_pos_iff.mpr hq
  obtain ⟨r, S', k1, k2, k3, e⟩ := draw n h (m := q.length) (by omega) (by omega)
  obtain ⟨x, hx, hm⟩ := at_nat k1 k2
  refine ⟨x, S', hm, k3, ?_⟩
  rw [fn_run lk_pick, mb_pick]
  have ex : exss (calls T (n + 2)) b__law_pick (startL ⟨2, 2, b__law_pick, false⟩ [.ref 0, .p (.lst q)]) S = some (.ret (.p x), S') := by
    simp [b__law_pick, startL, bind_ok, lft_ok, ofO_some, q_var, q_lit, q_idx, q_bif, q_call, q_nil, q_cons, q_scons, q_ret, rd, rds, pidx, bfn, e, hx]
  exact (run_ret rfl ex (pool_trim h k3)).trans rfl
end K51

set_option Elab.async false
set_option linter.all false
set_option maxRecDepth 100000
set_option autoImplicit false
namespace K51
open MP PySem
/-- a value of depth d whose text is of at most w signs -/
inductive Okv : Nat → Nat → P → Prop
  | int {d w : Nat} {i : Int} : 0 ≤ i → i < 1000 → 4 ≤ w → Okv d w (.int i)
  | str {d w : Nat} {x : Str} : x.length ≤ 8 → 8 ≤ w → Okv d w (.str x)
  | tup {d w k v : Nat} {l : List P} : (∀ x ∈ l, Okv d v x) → l.length ≤ k → k * (v + 1) + 2 ≤ w → Okv (d + 1) w (.tup l)
theorem Okv.mono {d d' w w' : Nat} {p : P} (h : Okv d w p) (hd : d ≤ d') (hw : w ≤ w') : Okv d' w' p := by
  induction h generalizing d' w' with
  | int a b c => exact .int a b (by omega)
  | str a c => exact .str a (by omega)
  | @tup d w k v l h hk hw2 ih =>
    cases d' with
    | zero => omega
    | succ d' => exact .tup (fun x m => ih x m (by omega) (Nat.le_refl _)) hk (by omega)
theorem q_comp (C : MP.Cl) (L : MP.Loc) (S : MP.Sto) (own : List Nat) (tg : MG) (src : MI) (tt : MT) (elt : ME) : ev C (.comp own tg src tt elt) L S = (evI C src L S).bind fun l S => noEx ((compF (turnF C L own tg tt elt) l [] S).bind fun r S => .ok (W.p (.lst r)) S) := rfl
theorem small {n : Nat} (h : n ≤ 100000) : n ≤ sizeLine := by rw [sizeLine_eq]; omega
theorem mb_some : m__law_some_of = ⟨2, 3, b__law_some_of, false⟩ := by kernel_rfl
theorem lk_some : fns.lookup ("_law_some_of" : Str) = some m__law_some_of := by kernel_rfl
theorem range_mem {m : Int} {x : P} (h : x ∈ rangeP 0 m.toNat) : ∃ k : Int, x = .int k ∧ 0 ≤ k ∧ k < m := by
  unfold rangeP at h
  obtain ⟨k, hk, rfl⟩ := List.mem_map.mp h
  have := List.mem_range.mp hk
  exact ⟨_, rfl, by omega, by omega⟩
theorem range_len (m : Int) : (rangeP 0 m.toNat).length = m.toNat := by simp [rangeP]
theorem some_of {l : List Int} {S : MP.Sto} (n : Nat) (h : Pool l S) {m : Int} (h0 : 0 ≤ m) (h1 : m ≤ 100) : ∃ (q : List P) (S' : MP.Sto), Pool l S' ∧ (calls T (n + 3)).fn "_law_some_of" [.ref 0, .p (.int m)] S = .ok (.p (.tup q)) S' ∧
    q.length ≤ m.toNat ∧ ∀ x ∈ q, ∃ k : Int, x = .int k ∧ 0 ≤ k ∧ k < m := by
  obtain ⟨zs, S', e, hp, pr, hl⟩ := comp_pool (l := l) (turn := turnF (calls T (n + 2)) [some (.ref 0), some (.p (.int m)), none] [2] (.name 2) (.val (.cmp .eq (.call "_law_draw" (.cons (.var 0) (.cons (.lit (.int 2)) .nil))) (.lit (.int 0)))) (.var 2))
    (Pr := fun x => ∃ k : Int, x = .int k ∧ 0 ≤ k ∧ k < m) (rangeP 0 m.toNat) [] S h (fun x hx S hS => by
      obtain ⟨k, rfl, k0, k1⟩ := range_mem hx
      obtain ⟨r, S1, r0, r1, hS1, er⟩ := draw n hS (m := 2) (by omega) (by omega)
      by_cases hr : r = 0
      · subst hr
        refine ⟨some (.int k), S1, ?_, hS1, fun z hz => ⟨k, by cases hz; rfl, k0, k1⟩⟩
        simp [turnF, wipe, bindT, q_val, q_cmp, q_call, q_cons, q_nil, q_var, q_lit, bind_ok, ofO_some, rd, cop, P.okd, P.depth, peq, truth, er]
      · refine ⟨none, S1, ?_, hS1, fun z hz => nomatch hz⟩
        simp [turnF, wipe, bindT, q_val, q_cmp, q_call, q_cons, q_nil, q_var, q_lit, bind_ok, ofO_some, rd, cop, P.okd, P.depth, peq, truth, er, hr]) (by rw [range_len]; exact small (by simp; omega))
  refine ⟨zs, S', hp, ?_, by rw [range_len] at hl; exact hl, pr⟩
  rw [fn_run lk_some, mb_some]
  have ex : exss (calls T (n + 2)) b__law_some_of (startL ⟨2, 3, b__law_some_of, false⟩ [.ref 0, .p (.int m)]) S = some (.ret (.p (.tup zs)), S') := by
    have hr : inR m = true := by unfold inR; rw [Bool.and_eq_true]; exact ⟨decide_eq_true (by omega), decide_eq_true (by omega)⟩
    simp [b__law_some_of, startL, bind_ok, lft_ok, ofO_some, q_var, q_bif, q_nil, q_cons, q_scons, q_ret, q_comp, q_ir1, rng1, rd, rds, bfn, hr, e, noEx]
  exact (run_ret rfl ex (pool_trim h hp)).trans rfl
end K51

set_option Elab.async false
set_option linter.all false
set_option maxRecDepth 100000
set_option autoImplicit false
namespace K51
open MP PySem
theorem inR_ok {m : Int} (h0 : 0 ≤ m) (h1 : m ≤ 100000) : inR m = true := by unfold inR; rw [Bool.and_eq_true]; exact ⟨decide_eq_true (by omega), decide_eq_true (by omega)⟩
theorem cut2 (a b : P) : cut sizeLine [a, b] = some [a, b] := if_pos (small (by simp))
theorem cut3 (a b c : P) : cut sizeLine [a, b, c] = some [a, b, c] := if_pos (small (by simp))
theorem cut4 (a b c d : P) : cut sizeLine [a, b, c, d] = some [a, b, c, d] := if_pos (small (by simp))
theorem mb_machine : m__law_machine = ⟨2, 4, b__law_machine, false⟩ := by kernel_rfl
theorem lk_machine : fns.lookup ("_law_machine" : Str) = some m__law_machine := by kernel_rfl
theorem machine {l : List Int} {S : MP.Sto} (n : Nat) (h : Pool l S) {m : Int} (h0 : 0 < m) (h1 : m ≤ 3) : ∃ (p : P) (S' : MP.Sto), Pool l S' ∧ (calls T (n + 4)).fn "_law_machine" [.ref 0, .p (.int m)] S = .ok (.p p) S' ∧ Okv 3 1000 p := by
  obtain ⟨r, S1, r0, r1, hS1, e1⟩ := draw (n + 1) h (m := m) h0 (by omega)
  obtain ⟨zs, S2, e2, hS2, pr, hl⟩ := comp_pool (l := l) (turn := turnF (calls T (n + 3)) [some (.ref 0), some (.p (.int m)), some (.p (.int (1 + r))), none] [3] (.name 3) .yes (.tup (.cons (.call "_law_draw" (.cons (.var 0) (.cons (.var 2) .nil))) (.cons (.call "_law_draw" (.cons (.var 0) (.cons (.var 2) .nil))) .nil))))
    (Pr := fun x => Okv 1 12 x) (rangeP 0 (1 + r).toNat) [] S1 hS1 (fun x hx S hS => by
      obtain ⟨k, rfl, k0, k1⟩ := range_mem hx
      obtain ⟨a, S3, a0, a1, hS3, ea⟩ := draw (n + 1) hS (m := 1 + r) (by omega) (by omega)
      obtain ⟨b, S4, b0, b1, hS4, eb⟩ := draw (n + 1) hS3 (m := 1 + r) (by omega) (by omega)
      refine ⟨some (.tup [.int a, .int b]), S4, ?_, hS4, fun z hz => ?_⟩
      · simp [turnF, wipe, bindT, q_yes, q_tup, q_call, q_cons, q_nil, q_var, q_lit, bind_ok, ofO_some, pures, ea, eb, cut2]
      · cases hz
        exact .tup (k := 2) (v := 4) (by simp; exact ⟨.int a0 (by omega) (by omega), .int b0 (by omega) (by omega)⟩) (by simp) (by omega)) (by rw [range_len]; exact small (by simp; omega))
  obtain ⟨q, S3, hS3, e3, hq, pq⟩ := some_of n hS2 (m := 1 + r) (by omega) (by omega)
  refine ⟨.tup [.tup zs, .tup q], S3, hS3, ?_, ?_⟩
  · rw [fn_run lk_machine, mb_machine]
    have ex : exss (calls T (n + 3)) b__law_machine (startL ⟨2, 4, b__law_machine, false⟩ [.ref 0, .p (.int m)]) S = some (.ret (.p (.tup [.tup zs, .tup q])), S3) := by
      simp [b__law_machine, startL, bind_ok, lft_ok, ofO_some, q_var, q_lit, q_bin, bop, q_bif, q_call, q_nil, q_cons, q_scons, q_set, q_gn, q_ret, q_tup, q_comp, q_ir1, rng1, rd, rds, pures, bfn, inR_ok (show 0 ≤ 1 + r by omega) (by omega), e1, e2, e3, noEx, cut2]
    exact (run_ret rfl ex (pool_trim h hS3)).trans rfl
  · rw [range_len] at hl
    refine .tup (k := 2) (v := 100) ?_ (by simp) (by omega)
    intro x hx
    simp at hx
    rcases hx with rfl | rfl
    · exact .tup (k := 3) (v := 12) (fun x m => pr x m) (by omega) (by omega)
    · refine .tup (k := 3) (v := 4) (fun x m => ?_) (by omega) (by omega)
      obtain ⟨k, rfl, k0, k1⟩ := pq x m
      exact .int k0 (by omega) (by omega)
end K51

set_option Elab.async false
set_option linter.all false
set_option maxRecDepth 100000
set_option autoImplicit false
namespace K51
open MP PySem
def wPat : Nat → Nat
  | 0 => 20
  | d + 1 => 3 * (wPat d + 1) + 2
def words : List P := [.str "row", .str "row", .str "either", .str "again"]
def leaves : List P := [.tup [.str "letter", .int 0], .tup [.str "letter", .int 1], .tup [.str "letter", .int 0], .tup [.str "letter", .int 1], .tup [.str "blank"], .tup [.str "none"]]
theorem mb_pattern : m__law_pattern = ⟨3, 4, b__law_pattern, false⟩ := by kernel_rfl
theorem lk_pattern : fns.lookup ("_law_pattern" : Str) = some m__law_pattern := by kernel_rfl
theorem cut6 (a b c d e f : P) : cut sizeLine [a, b, c, d, e, f] = some [a, b, c, d, e, f] := if_pos (small (by simp))
theorem cut1 (a : P) : cut sizeLine [a] = some [a] := if_pos (small (by simp))
theorem leaf_ok {x : P} (h : x ∈ leaves) : Okv 1 20 x := by
  have s : ∀ z : Str, z.length ≤ 8 → Okv 0 8 (.str z) := fun z hz => .str hz (Nat.le_refl _)
  have i : ∀ k : Int, 0 ≤ k → k < 1000 → Okv 0 8 (.int k) := fun k a b => .int a b (by omega)
  simp only [leaves, List.mem_cons, List.not_mem_nil, or_false] at h
  rcases h with rfl | rfl | rfl | rfl | rfl | rfl <;> refine .tup (k := 2) (v := 8) (fun x m => ?_) (by simp) (by omega) <;> simp only [List.mem_cons, List.not_mem_nil, or_false] at m
  · rcases m with rfl | rfl
    · exact s _ (by decide +kernel)
    · exact i _ (by decide) (by decide)
  · rcases m with rfl | rfl
    · exact s _ (by decide +kernel)
    · exact i _ (by decide) (by decide)
  · rcases m with rfl | rfl
    · exact s _ (by decide +kernel)
    · exact i _ (by decide) (by decide)
  · rcases m with rfl | rfl
    · exact s _ (by decide +kernel)
    · exact i _ (by decide) (by decide)
  · subst m; exact s _ (by decide +kernel)
  · subst m; exact s _ (by decide +kernel)
theorem in_words {x : P} (h : x ∈ words) : ∃ z : Str, x = .str z ∧ z.length ≤ 8 ∧ ∃ b : Bool, cop .in_ (.str z) (.tup [.str "again", .str "not"]) = some b := by
  simp only [words, List.mem_cons, List.not_mem_nil, or_false] at h
  rcases h with rfl | rfl | rfl | rfl
  · exact ⟨_, rfl, by decide +kernel, false, by kernel_rfl⟩
  · exact ⟨_, rfl, by decide +kernel, false, by kernel_rfl⟩
  · exact ⟨_, rfl, by decide +kernel, false, by kernel_rfl⟩
  · exact ⟨_, rfl, by decide +kernel, true, by kernel_rfl⟩
theorem cop_eqi (i j : Int) : cop .eq (.int i) (.int j) = some (decide (i = j)) := rfl
theorem wPat_ge : ∀ d, 20 ≤ wPat d
  | 0 => Nat.le_refl _
  | d + 1 => by
    have := wPat_ge d
    show 20 ≤ 3 * (wPat d + 1) + 2
    omega
theorem pattern {l : List Int} (n : Nat) : ∀ (d : Nat) (D : Int) (S : MP.Sto), D = d → d ≤ 5 → Pool l S → ∃ (p : P) (S' : MP.Sto), Pool l S' ∧ (calls T (n + 4 + d)).fn "_law_pattern" [.ref 0, .p (.int D), .p (.lst words)] S = .ok (.p p) S' ∧ Okv (d + 1) (wPat d) p
  | 0, D, S, hD, _, h => by
    obtain ⟨x, S1, hx, hS1, e1⟩ := pick n h (q := leaves) (by simp [leaves]) (by simp [leaves])
    refine ⟨x, S1, hS1, ?_, leaf_ok hx⟩
    rw [fn_run lk_pattern, mb_pattern]
    simp only [leaves] at e1
    have hD : D = 0 := hD
    subst hD
    have ex : exss (calls T (n + 3)) b__law_pattern (startL ⟨3, 4, b__law_pattern, false⟩ [.ref 0, .p (.int 0), .p (.lst words)]) S = some (.ret (.p x), S1) := by
      simp [b__law_pattern, startL, bind_ok, lft_ok, ofO_some, q_var, q_lit, q_tor, q_val, q_cmp, q_ifs, q_call, q_nil, q_cons, q_scons, q_snil, q_ret, q_tup, q_lst, rd, pures, cop, P.okd, P.depth, peq, truth, cut1, cut2, cut6, e1]
    exact (run_ret rfl ex (pool_trim h hS1)).trans rfl
  | d + 1, D, S, hD, hd, h => by
    have hz : ¬ D = 0 := by omega
    have hw := wPat_ge d
    rw [show n + 4 + (d + 1) = n + 4 + d + 1 from by omega, fn_run lk_pattern, mb_pattern]
    obtain ⟨r, S0, r0, r1, hS0, e0⟩ := draw (n + 2 + d) h (m := 5) (by omega) (by omega)
    rw [show n + 2 + d + 2 = n + 4 + d from by omega] at e0
    by_cases hr : r = 0
    · subst hr
      obtain ⟨x, S1, hx, hS1, e1⟩ := pick (n + 1 + d) hS0 (q := leaves) (by simp [leaves]) (by simp [leaves])
      refine ⟨x, S1, hS1, ?_, (leaf_ok hx).mono (by omega) (by show 20 ≤ 3 * (wPat d + 1) + 2; omega)⟩
      simp only [leaves] at e1
      rw [show n + 1 + d + 3 = n + 4 + d from by omega] at e1
      have ex : exss (calls T (n + 4 + d)) b__law_pattern (startL ⟨3, 4, b__law_pattern, false⟩ [.ref 0, .p (.int D), .p (.lst words)]) S = some (.ret (.p x), S1) := by
        simp [b__law_pattern, startL, bind_ok, lft_ok, ofO_some, q_var, q_lit, q_tor, q_val, q_cmp, q_ifs, q_call, q_nil, q_cons, q_scons, q_snil, q_ret, q_tup, q_lst, rd, pures, cop, P.okd, P.depth, peq, truth, cut1, cut2, cut6, e0, e1, hz]
      exact (run_ret rfl ex (pool_trim h hS1)).trans rfl
    · obtain ⟨x, S1, hx, hS1, e1⟩ := pick (n + 1 + d) hS0 (q := words) (by simp [words]) (by simp [words])
      rw [show n + 1 + d + 3 = n + 4 + d from by omega] at e1
      obtain ⟨z, rfl, hzl, b, hb⟩ := in_words hx
      obtain ⟨p1, S2, hS2, e2, o1⟩ := pattern n d (D - 1) S1 (by omega) (by omega) hS1
      have oz : Okv (d + 1) (wPat d) (.str z) := .str hzl (by omega)
      cases b with
      | true =>
        refine ⟨.tup [.str z, p1], S2, hS2, ?_, .tup (k := 3) (v := wPat d) ?_ (by simp) (Nat.le_refl _)⟩
        · have ex : exss (calls T (n + 4 + d)) b__law_pattern (startL ⟨3, 4, b__law_pattern, false⟩ [.ref 0, .p (.int D), .p (.lst words)]) S = some (.ret (.p (.tup [.str z, p1])), S2) := by
            simp [b__law_pattern, startL, bind_ok, lft_ok, ofO_some, q_var, q_lit, q_tor, q_val, q_cmp, q_ifs, q_call, q_nil, q_cons, q_scons, q_snil, q_ret, q_tup, q_lst, q_set, q_gn, q_bin, bop, rd, pures, cop_eqi, truth, cut1, cut2, cut6, e0, e1, e2, hz, hr, hb]
          exact (run_ret rfl ex (pool_trim h hS2)).trans rfl
        · intro y m
          simp only [List.mem_cons, List.not_mem_nil, or_false] at m
          rcases m with rfl | rfl
          · exact oz
          · exact o1
      | false =>
        obtain ⟨p2, S3, hS3, e3, o2⟩ := pattern n d (D - 1) S2 (by omega) (by omega) hS2
        refine ⟨.tup [.str z, p1, p2], S3, hS3, ?_, .tup (k := 3) (v := wPat d) ?_ (by simp) (Nat.le_refl _)⟩
        · have ex : exss (calls T (n + 4 + d)) b__law_pattern (startL ⟨3, 4, b__law_pattern, false⟩ [.ref 0, .p (.int D), .p (.lst words)]) S = some (.ret (.p (.tup [.str z, p1, p2])), S3) := by
            simp [b__law_pattern, startL, bind_ok, lft_ok, ofO_some, q_var, q_lit, q_tor, q_val, q_cmp, q_ifs, q_call, q_nil, q_cons, q_scons, q_snil, q_ret, q_tup, q_lst, q_set, q_gn, q_bin, bop, rd, pures, cop_eqi, truth, cut1, cut2, cut3, cut6, e0, e1, e2, e3, hz, hr, hb]
          exact (run_ret rfl ex (pool_trim h hS3)).trans rfl
        · intro y m
          simp only [List.mem_cons, List.not_mem_nil, or_false] at m
          rcases m with rfl | rfl | rfl
          · exact oz
          · exact o1
          · exact o2
end K51

set_option Elab.async false
set_option linter.all false
set_option maxRecDepth 100000
set_option autoImplicit false
namespace K51
open MP PySem
/-- _law_pick of a text -/
theorem pickS {l : List Int} {S : MP.Sto} (n : Nat) (h : Pool l S) {z : Str} (hz : 0 < z.length) (hz2 : z.length ≤ 1000) : ∃ (c : Nat) (S' : MP.Sto), Pool l S' ∧ (calls T (n + 3)).fn "_law_pick" [.ref 0, .p (.str z)] S = .ok (.p (.str ⟨#[c]⟩)) S' := by
  obtain ⟨r, S', k1, k2, k3, e⟩ := draw n h (m := z.length) (by omega) (by omega)
  obtain ⟨k, rfl⟩ := Int.eq_ofNat_of_zero_le k1
  have hk : k < z.cps.toList.length := by
    have : z.length = z.cps.toList.length := by simp [Str.length]
    omega
  have hx : L2.atI z.cps.toList (k : Int) = some z.cps.toList[k] := by
    have hk' : k < z.cps.size := by simpa using hk
    unfold L2.atI L2.ixN
    simp [hk']
  refine ⟨z.cps.toList[k], S', k3, ?_⟩
  rw [fn_run lk_pick, mb_pick]
  have hs : z.length ≤ sizeLine := small (by omega)
  have ex : exss (calls T (n + 2)) b__law_pick (startL ⟨2, 2, b__law_pick, false⟩ [.ref 0, .p (.str z)]) S = some (.ret (.p (.str ⟨#[z.cps.toList[k]]⟩)), S') := by
    simp only [b__law_pick, startL, bind_ok, lft_ok, ofO_some, q_var, q_lit, q_idx, q_bif, q_call, q_nil, q_cons, q_scons, q_ret, rd, rds, pidx, bfn, e, hx, hs, if_true, Option.bind, Option.map, List.map, List.append, List.getElem?_cons_zero, List.getElem?_cons_succ, List.cons_append]
  exact (run_ret rfl ex (pool_trim h k3)).trans rfl
end K51

set_option Elab.async false
set_option linter.all false
set_option maxRecDepth 100000
set_option autoImplicit false
namespace K51
open MP PySem
theorem slen (x y : Str) : (x ++ y).length = x.length + y.length := by
  show (x.cps ++ y.cps).size = _
  rw [Array.size_append]; rfl
theorem mb_garbled : m__law_garbled = ⟨3, 6, b__law_garbled, false⟩ := by kernel_rfl
theorem lk_garbled : fns.lookup ("_law_garbled" : Str) = some m__law_garbled := by kernel_rfl
theorem bop_str {x y : Str} (h : x.length + y.length ≤ 100000) : bop .add (.str x) (.str y) = some (.str (x ++ y)) := if_pos (small h)
theorem slc_str {z : Str} (lo hi : Option Int) (h : z.length ≤ 100000) : pslc (.str z) lo hi = some (.str (L2.cutS z lo hi)) := if_pos (small h)
theorem garbled {l : List Int} {S : MP.Sto} (n : Nat) (h : Pool l S) {z g : Str} (hz : z.length ≤ 5000) (hg : 0 < g.length) (hg2 : g.length ≤ 1000) :
    ∃ (r : Str) (S' : MP.Sto), r.length ≤ 3 * z.length + 1 ∧ Pool l S' ∧ (calls T (n + 4)).fn "_law_garbled" [.ref 0, .p (.str z), .p (.str g)] S = .ok (.p (.str r)) S' := by
  obtain ⟨a, S1, a0, a1, h1, e1⟩ := draw (n + 1) h (m := z.length + 1) (by omega) (by omega)
  obtain ⟨t, S2, t0, t1, h2, e2⟩ := draw (n + 1) h1 (m := 4) (by omega) (by omega)
  obtain ⟨c, S3, h3, e3⟩ := pickS n h2 hg hg2
  have hs : z.length ≤ sizeLine := small (by omega)
  have cl : ∀ lo hi, (L2.cutS z lo hi).length ≤ z.length := L2.cutS_length z
  have sl : ∀ lo hi, pslc (.str z) lo hi = some (.str (L2.cutS z lo hi)) := fun lo hi => slc_str lo hi (by omega)
  have one : (⟨#[c]⟩ : Str).length = 1 := rfl
  have b1 : ∀ lo hi, bop .add (.str (L2.cutS z lo hi)) (.str ⟨#[c]⟩) = some (.str (L2.cutS z lo hi ++ ⟨#[c]⟩)) := fun lo hi => bop_str (by have := cl lo hi; omega)
  have b2 : ∀ lo hi lo' hi', bop .add (.str (L2.cutS z lo hi ++ ⟨#[c]⟩)) (.str (L2.cutS z lo' hi')) = some (.str (L2.cutS z lo hi ++ ⟨#[c]⟩ ++ L2.cutS z lo' hi')) := fun lo hi lo' hi' => bop_str (by rw [slen]; have := cl lo hi; have := cl lo' hi'; omega)
  have b3 : ∀ lo hi lo' hi', bop .add (.str (L2.cutS z lo hi)) (.str (L2.cutS z lo' hi')) = some (.str (L2.cutS z lo hi ++ L2.cutS z lo' hi')) := fun lo hi lo' hi' => bop_str (by have := cl lo hi; have := cl lo' hi'; omega)
  have b4 : ∀ lo hi lo' hi' x y, bop .add (.str (L2.cutS z lo hi ++ L2.cutS z lo' hi')) (.str (L2.cutS z x y)) = some (.str (L2.cutS z lo hi ++ L2.cutS z lo' hi' ++ L2.cutS z x y)) := fun lo hi lo' hi' x y => bop_str (by rw [slen]; have := cl lo hi; have := cl lo' hi'; have := cl x y; omega)
  have ba : ∀ i j : Int, bop .add (.int i) (.int j) = some (.int (i + j)) := fun _ _ => rfl
  have bl : bfn .len [.str z] = some (.int z.length) := if_pos hs
  have fin_ : ∀ (r : Str), exss (calls T (n + 3)) b__law_garbled (startL ⟨3, 6, b__law_garbled, false⟩ [.ref 0, .p (.str z), .p (.str g)]) S = some (.ret (.p (.str r)), S3) → r.length ≤ 3 * z.length + 1 →
      ∃ (r : Str) (S' : MP.Sto), r.length ≤ 3 * z.length + 1 ∧ Pool l S' ∧ (calls T (n + 4)).fn "_law_garbled" [.ref 0, .p (.str z), .p (.str g)] S = .ok (.p (.str r)) S' := fun r ex hr => by
    refine ⟨r, S3, hr, h3, ?_⟩
    rw [fn_run lk_garbled, mb_garbled]
    exact (run_ret rfl ex (pool_trim h h3)).trans rfl
  by_cases c0 : t = 0
  · refine fin_ (L2.cutS z none (some a) ++ ⟨#[c]⟩ ++ L2.cutS z (some a) none) ?_ (by rw [slen, slen, one]; have := cl none (some a); have := cl (some a) none; omega)
    subst c0
    simp [b__law_garbled, startL, bind_ok, lft_ok, ofO_some, q_var, q_lit, q_slc, q_onon, q_osom, q_val, q_cmp, q_ifs, q_bif, q_call, q_bin, q_nil, q_cons, q_scons, q_snil, q_ret, q_set, q_gn, rd, rds, cop_eqi, truth, sl, b1, b2, b3, b4, ba, bl, e1, e2, e3]
  · by_cases c1 : t = 1
    · refine fin_ (L2.cutS z none (some a) ++ L2.cutS z (some (a + 1)) none) ?_ (by rw [slen]; have := cl none (some a); have := cl (some (a + 1)) none; omega)
      subst c1
      simp [b__law_garbled, startL, bind_ok, lft_ok, ofO_some, q_var, q_lit, q_slc, q_onon, q_osom, q_val, q_cmp, q_ifs, q_bif, q_call, q_bin, q_nil, q_cons, q_scons, q_snil, q_ret, q_set, q_gn, rd, rds, cop_eqi, truth, sl, b1, b2, b3, b4, ba, bl, e1, e2, e3]
    · by_cases c2 : t = 2
      · refine fin_ (L2.cutS z none (some a) ++ ⟨#[c]⟩ ++ L2.cutS z (some (a + 1)) none) ?_ (by rw [slen, slen, one]; have := cl none (some a); have := cl (some (a + 1)) none; omega)
        subst c2
        simp [b__law_garbled, startL, bind_ok, lft_ok, ofO_some, q_var, q_lit, q_slc, q_onon, q_osom, q_val, q_cmp, q_ifs, q_bif, q_call, q_bin, q_nil, q_cons, q_scons, q_snil, q_ret, q_set, q_gn, rd, rds, cop_eqi, truth, sl, b1, b2, b3, b4, ba, bl, e1, e2, e3]
      · refine fin_ (L2.cutS z none (some a) ++ L2.cutS z (some a) (some (a + 1)) ++ L2.cutS z (some a) none) ?_ (by rw [slen, slen]; have := cl none (some a); have := cl (some a) (some (a + 1)); have := cl (some a) none; omega)
        simp [b__law_garbled, startL, bind_ok, lft_ok, ofO_some, q_var, q_lit, q_slc, q_onon, q_osom, q_val, q_cmp, q_ifs, q_bif, q_call, q_bin, q_nil, q_cons, q_scons, q_snil, q_ret, q_set, q_gn, rd, rds, cop_eqi, truth, sl, b1, b2, b3, b4, ba, bl, e1, e2, e3, c0, c1, c2]
end K51

set_option Elab.async false
set_option linter.all false
set_option maxRecDepth 100000
set_option autoImplicit false
namespace K51
open MP PySem
theorem join_len {s : Str} {v : Nat} (hs : s.length = 1) : ∀ ys : List Str, (∀ y ∈ ys, y.length ≤ v) → (Str.join s ys).length ≤ ys.length * (v + 1)
  | [], _ => by unfold Str.join; exact Nat.zero_le _
  | [p], h => by
    show p.length ≤ _
    have := h p (by simp)
    simp; omega
  | p :: q :: r, h => by
    show (p ++ s ++ Str.join s (q :: r)).length ≤ _
    have h1 := h p (by simp)
    have h2 := join_len hs (q :: r) fun y m => h y (List.mem_cons_of_mem _ m)
    rw [slen, slen, hs, List.length_cons, Nat.succ_mul]
    omega
theorem sum_len {v : Nat} : ∀ ys : List Str, (∀ y ∈ ys, y.length ≤ v) → (ys.map (·.length)).sum ≤ ys.length * v
  | [], _ => by simp
  | p :: r, h => by
    have h1 := h p (by simp)
    have h2 := sum_len r fun y m => h y (List.mem_cons_of_mem _ m)
    rw [List.map_cons, List.sum_cons, List.length_cons, Nat.succ_mul]
    omega
theorem strs_map : ∀ zs : List Str, P.strs? (zs.map P.str) = some zs
  | [] => rfl
  | z :: zs => by
    show (P.strs? (zs.map P.str)).map (z :: ·) = _
    rw [strs_map zs]; rfl
theorem comp_strs {turn : P → MP.Sto → Res (Option P)} {v : Nat} {S : MP.Sto} : ∀ (xs acc : List P), (∀ x ∈ xs, ∃ z : Str, z.length ≤ v ∧ turn x S = .ok (some (.str z)) S) → acc.length + xs.length ≤ sizeLine →
    ∃ zs : List Str, compF turn xs acc S = .ok (acc ++ zs.map P.str) S ∧ zs.length = xs.length ∧ ∀ z ∈ zs, z.length ≤ v
  | [], acc, _, _ => ⟨[], by simp [compF], rfl, by simp⟩
  | x :: xs, acc, h, hl => by
    obtain ⟨z, hz, e⟩ := h x (by simp)
    rw [List.length_cons] at hl
    obtain ⟨zs, e2, l2, p2⟩ := comp_strs xs (acc ++ [.str z]) (fun x m => h x (List.mem_cons_of_mem _ m)) (by rw [List.length_append]; simp; omega)
    refine ⟨z :: zs, ?_, by simp [l2], ?_⟩
    · unfold compF
      rw [e]
      show (if acc.length < sizeLine then compF turn xs (acc ++ [.str z]) S else .bad) = _
      rw [if_pos (by omega), e2, List.append_assoc]; rfl
    · intro w m
      rcases List.mem_cons.mp m with q | q
      · rw [q]; exact hz
      · exact p2 w q
theorem int_len : ∀ k : Nat, k < 1000 → (Str.ofString (toString ((k : Nat) : Int))).length ≤ 4 := by
  have h : (List.range 1000).all (fun k => decide ((Str.ofString (toString ((k : Nat) : Int))).length ≤ 4)) = true := by decide +kernel
  intro k hk
  exact of_decide_eq_true (List.all_eq_true.mp h k (List.mem_range.mpr hk))
theorem mb_write : m_write_value = ⟨1, 2, b_write_value, false⟩ := by kernel_rfl
theorem lk_write : fns.lookup ("write_value" : Str) = some m_write_value := by kernel_rfl
theorem int_log : ∀ k : Nat, k < 1000 → ((k : Nat) : Int).natAbs.log2 < 1920 := by
  have h : (List.range 1000).all (fun k => decide (((k : Nat) : Int).natAbs.log2 < 1920)) = true := by decide +kernel
  intro k hk
  exact of_decide_eq_true (List.all_eq_true.mp h k (List.mem_range.mpr hk))
theorem write {S : MP.Sto} (hS : trimS S.length S = some S) (n : Nat) : ∀ (d w : Nat) (p : P), Okv d w p → w ≤ 100000 → ∃ z : Str, z.length ≤ w ∧ (calls T (n + 1 + d)).fn "write_value" [.p p] S = .ok (.p (.str z)) S := by
  intro d w p h
  induction h with
  | @int d w i h0 h1 hw =>
    intro _
    obtain ⟨k, rfl⟩ := Int.eq_ofNat_of_zero_le h0
    refine ⟨Str.ofString (toString ((k : Nat) : Int)), Nat.le_trans (int_len k (by omega)) hw, ?_⟩
    rw [show n + 1 + d = n + d + 1 from by omega, fn_run lk_write, mb_write]
    have hl : bfn .str [.int (k : Int)] = some (.str (Str.ofString (toString ((k : Nat) : Int)))) := if_pos (int_log k (by omega))
    have ex : exss (calls T (n + d)) b_write_value (startL ⟨1, 2, b_write_value, false⟩ [.p (.int (k : Int))]) S = some (.ret (.p (.str (Str.ofString (toString ((k : Nat) : Int))))), S) := by
      simp [b_write_value, startL, bind_ok, lft_ok, ofO_some, q_var, q_isi, q_val, q_ifs, q_bif, q_nil, q_cons, q_scons, q_snil, q_ret, rd, rds, truth, isT, hl]
    exact (run_ret rfl ex hS).trans rfl
  | @str d w x hx hw =>
    intro _
    refine ⟨x, by omega, ?_⟩
    rw [show n + 1 + d = n + d + 1 from by omega, fn_run lk_write, mb_write]
    have ex : exss (calls T (n + d)) b_write_value (startL ⟨1, 2, b_write_value, false⟩ [.p (.str x)]) S = some (.ret (.p (.str x)), S) := by
      simp [b_write_value, startL, bind_ok, lft_ok, ofO_some, q_var, q_isi, q_val, q_ifs, q_bif, q_nil, q_cons, q_scons, q_snil, q_ret, rd, rds, truth, isT, bfn]
    exact (run_ret rfl ex hS).trans rfl
  | @tup d w k v l h hk hw ih =>
    intro hw2
    have hlw : l.length * (v + 1) + 2 ≤ w := by
      have := Nat.mul_le_mul_right (v + 1) hk
      omega
    have hl0 : l.length ≤ 100000 := by
      have := Nat.le_mul_of_pos_right l.length (Nat.succ_pos v)
      have e : v.succ = v + 1 := rfl
      rw [e] at this
      omega
    obtain ⟨zs, e, hl, hz⟩ := comp_strs (v := v) (turn := turnF (calls T (n + 1 + d)) [some (.p (.tup l)), none] [1] (.name 1) .yes (.call "write_value" (.cons (.var 1) .nil))) (S := S) l [] (fun x m => by
      have hv : v ≤ 100000 := by
        have hp : 0 < l.length := List.length_pos_of_mem m
        have := Nat.le_mul_of_pos_left (v + 1) hp
        omega
      obtain ⟨z, hz, ez⟩ := ih x m hv
      refine ⟨z, hz, ?_⟩
      simp [turnF, wipe, bindT, q_yes, q_call, q_cons, q_nil, q_var, bind_ok, ez]) (small (by simp; omega))
    have hj := join_len (s := (" " : Str)) rfl zs hz
    rw [hl] at hj
    have hsum := sum_len zs hz
    rw [hl] at hsum
    have hmul : l.length * v ≤ l.length * (v + 1) := Nat.mul_le_mul_left _ (Nat.le_succ v)
    have ej : joinP (" " : Str) (.lst (zs.map P.str)) = some (.str (Str.join (" " : Str) zs)) := by
      show ((P.strs? (zs.map P.str)).bind fun ys => if (ys.map (·.length)).sum + ys.length * (" " : Str).length ≤ 16777216 then some (P.str (Str.join (" " : Str) ys)) else none) = _
      rw [strs_map]
      have l1 : (" " : Str).length = 1 := rfl
      exact if_pos (by rw [l1, hl]; omega)
    have lb : ("[" : Str).length = 1 := rfl
    have lb2 : ("]" : Str).length = 1 := rfl
    have b1 := bop_str (x := ("[" : Str)) (y := Str.join (" " : Str) zs) (by rw [lb]; omega)
    have b2 := bop_str (x := ("[" : Str) ++ Str.join (" " : Str) zs) (y := ("]" : Str)) (by rw [slen, lb, lb2]; omega)
    refine ⟨("[" : Str) ++ Str.join (" " : Str) zs ++ ("]" : Str), by rw [slen, slen, lb, lb2]; omega, ?_⟩
    rw [show n + 1 + (d + 1) = n + 1 + d + 1 from by omega, fn_run lk_write, mb_write]
    have ex : exss (calls T (n + 1 + d)) b_write_value (startL ⟨1, 2, b_write_value, false⟩ [.p (.tup l)]) S = some (.ret (.p (.str (("[" : Str) ++ Str.join (" " : Str) zs ++ ("]" : Str)))), S) := by
      simp [b_write_value, startL, bind_ok, lft_ok, ofO_some, q_var, q_lit, q_isi, q_val, q_ifs, q_bin, q_join, q_comp, q_iex, walk, q_nil, q_cons, q_scons, q_snil, q_ret, rd, truth, isT, e, noEx, ej, b1, b2]
    exact (run_ret rfl ex hS).trans rfl
end K51

set_option Elab.async false
set_option linter.all false
set_option maxRecDepth 100000
set_option autoImplicit false
namespace K51
open MP PySem
theorem mb_words : m__law_plain_words = ⟨0, 0, b__law_plain_words, false⟩ := by kernel_rfl
theorem lk_words : fns.lookup ("_law_plain_words" : Str) = some m__law_plain_words := by kernel_rfl
theorem plain_words {S : MP.Sto} (hS : trimS S.length S = some S) (n : Nat) : (calls T (n + 1)).fn "_law_plain_words" [] S = .ok (.p (.lst words)) S := by
  rw [fn_run lk_words, mb_words]
  have c4 := cut4 (.str "row") (.str "row") (.str "either") (.str "again")
  have ex : exss (calls T n) b__law_plain_words (startL ⟨0, 0, b__law_plain_words, false⟩ []) S = some (.ret (.p (.lst words)), S) := by
    simp [b__law_plain_words, startL, bind_ok, lft_ok, ofO_some, q_lit, q_lst, q_nil, q_cons, q_scons, q_ret, pures, c4, words]
  exact (run_ret rfl ex hS).trans rfl
end K51

set_option Elab.async false
set_option linter.all false
set_option maxRecDepth 100000
set_option autoImplicit false
namespace K51
open MP PySem
/-- a sign -/
def sg (c : Nat) : Str := ⟨#[c]⟩
def wordC : Str := "abcdefghijklmnopqrstuvwxyz0123456789"
theorem ne_empty (c : Nat) : cop .ne (.str (sg c)) (.str "") = some true := rfl
theorem ne_empty0 : cop .ne (.str "") (.str "") = some false := by kernel_rfl
theorem in_sg (c : Nat) (z : Str) : cop .in_ (.str (sg c)) (.str z) = some (decide (c ∈ z.cps.toList)) := rfl
theorem notin_sg (c : Nat) (z : Str) : cop .notin (.str (sg c)) (.str z) = some (!decide (c ∈ z.cps.toList)) := rfl
theorem mb_ws : m__law_word_sign = ⟨1, 1, b__law_word_sign, false⟩ := by kernel_rfl
theorem lk_ws : fns.lookup ("_law_word_sign" : Str) = some m__law_word_sign := by kernel_rfl
theorem q_and (C : MP.Cl) (L : MP.Loc) (S : MP.Sto) (a b : ME) : ev C (.and a b) L S = (ev C a L S).bind fun x S => (match (rd S x).bind truth with
    | some true => ev C b L S
    | some false => .ok x S
    | none => .bad) := rfl
theorem word_sign {S : MP.Sto} (hS : trimS S.length S = some S) (n : Nat) (c : Nat) : (calls T (n + 1)).fn "_law_word_sign" [.p (.str (sg c))] S = .ok (.p (.bl (decide (c ∈ wordC.cps.toList)))) S := by
  rw [fn_run lk_ws, mb_ws]
  have ex : exss (calls T n) b__law_word_sign (startL ⟨1, 1, b__law_word_sign, false⟩ [.p (.str (sg c))]) S = some (.ret (.p (.bl (decide (c ∈ wordC.cps.toList)))), S) := by
    simp [b__law_word_sign, startL, bind_ok, lft_ok, ofO_some, q_var, q_lit, q_and, q_cmp, q_scons, q_ret, rd, ne_empty, in_sg, truth, wordC]
  exact (run_ret rfl ex hS).trans rfl
theorem word_sign0 {S : MP.Sto} (hS : trimS S.length S = some S) (n : Nat) : (calls T (n + 1)).fn "_law_word_sign" [.p (.str "")] S = .ok (.p (.bl false)) S := by
  rw [fn_run lk_ws, mb_ws]
  have ex : exss (calls T n) b__law_word_sign (startL ⟨1, 1, b__law_word_sign, false⟩ [.p (.str "")]) S = some (.ret (.p (.bl false)), S) := by
    simp [b__law_word_sign, startL, bind_ok, lft_ok, ofO_some, q_var, q_lit, q_and, q_cmp, q_scons, q_ret, rd, ne_empty0, truth]
  exact (run_ret rfl ex hS).trans rfl
end K51

set_option Elab.async false
set_option linter.all false
set_option maxRecDepth 100000
set_option autoImplicit false
namespace K51
open MP PySem
theorem six (n d k : Nat) : HT.sIx n d (some (k : Int)) = min k n := by
  unfold HT.sIx
  simp
  omega
def at_ (z : Str) (k : Nat) : Str := match z.cps.toList[k]? with
  | some c => sg c
  | none => ""
theorem cut_at (z : Str) (k : Nat) : L2.cutS z (some (k : Int)) (some ((k + 1 : Nat) : Int)) = at_ z k := by
  unfold L2.cutS at_
  rw [six, six]
  have hl : z.length = z.cps.toList.length := by simp [Str.length]
  rcases Nat.lt_or_ge k z.cps.toList.length with h | h
  · rw [List.getElem?_eq_getElem h, hl, Nat.min_eq_left (Nat.le_of_lt h), Nat.min_eq_left (show k + 1 ≤ z.cps.toList.length from h)]
    rw [List.drop_eq_getElem_cons h, show k + 1 - k = 1 from by omega]
    rfl
  · rw [List.getElem?_eq_none h, hl, Nat.min_eq_right h, Nat.min_eq_right (by omega), List.drop_eq_nil_of_le (Nat.le_refl _)]
    simp
    rfl
end K51

set_option Elab.async false
set_option linter.all false
set_option maxRecDepth 100000
set_option autoImplicit false
namespace K51
open MP PySem
/-! the values of a text, by places -/
def digC : Str := "0123456789"
def isW (c : Nat) : Bool := decide (c ∈ wordC.cps.toList)
def isD (c : Nat) : Bool := decide (c ∈ digC.cps.toList)
def runTo (cs : List Nat) (p : Nat → Bool) (h : Nat) : Nat := h + ((cs.drop h).takeWhile p).length
def cutC (cs : List Nat) (h e : Nat) : List Nat := (cs.drop h).take (e - h)
def wholeT (t : List Nat) : Bool :=
  let b := if t.head? = some 45 then t.tail else t
  !b.isEmpty && decide (b.length ≤ 6) && b.all isD && (decide (b.head? ≠ some 48) || decide (t = [48]))
def tokV (t : List Nat) : Int := if t.head? = some 45 then -((PySem.NumText.digitsVal t.tail : Nat) : Int) else (PySem.NumText.digitsVal t : Nat)
def num (cs : List Nat) (h : Nat) : Option (P × Nat) := if wholeT (cutC cs h (runTo cs isD (h + 1))) = true then some (.int (tokV (cutC cs h (runTo cs isD (h + 1)))), runTo cs isD (h + 1)) else none
def loopV (cs : List Nat) (v : Nat → Option (P × Nat)) : Nat → Nat → List P → Option (P × Nat)
  | 0, _, _ => none
  | f + 1, h, acc => match v h with
    | none => none
    | some (p, e) => if cs[e]? = some 93 then some (.tup (acc ++ [p]), e + 1) else if cs[e]? = some 32 then loopV cs v f (e + 1) (acc ++ [p]) else none
def val (cs : List Nat) : Nat → Nat → Option (P × Nat)
  | d, h => match cs[h]? with
    | none => none
    | some c => if isW c = true ∧ isD c = false then some (.str ⟨(cutC cs h (runTo cs isW h)).toArray⟩, runTo cs isW h)
      else if c ≠ 91 then num cs h
      else match d with
        | 0 => none
        | d + 1 => if cs[h + 1]? = some 93 then some (.tup [], h + 2) else loopV cs (val cs d) (cs.length + 1) (h + 1) []
def encV : Option (P × Nat) → P
  | none => .non
  | some (p, e) => .tup [p, .int e]
theorem runTo_le (cs : List Nat) (p : Nat → Bool) {h : Nat} (hh : h ≤ cs.length) : runTo cs p h ≤ cs.length := by
  unfold runTo
  have := (List.takeWhile_sublist p (l := cs.drop h)).length_le
  rw [List.length_drop] at this
  omega
theorem runTo_ge (cs : List Nat) (p : Nat → Bool) (h : Nat) : h ≤ runTo cs p h := Nat.le_add_right _ _
theorem tw_mem {p : Nat → Bool} : ∀ (l : List Nat) (c : Nat), c ∈ l.takeWhile p → p c = true
  | [], c, h => by simp at h
  | a :: l, c, h => by
    by_cases ha : p a = true
    · rw [List.takeWhile_cons_of_pos ha] at h
      rcases List.mem_cons.mp h with e | m
      · rw [e]; exact ha
      · exact tw_mem l c m
    · rw [List.takeWhile_cons_of_neg ha] at h
      exact absurd h (by simp)
theorem runTo_yes (cs : List Nat) (p : Nat → Bool) (h k : Nat) (h1 : h ≤ k) (h2 : k < runTo cs p h) : ∃ c, cs[k]? = some c ∧ p c = true := by
  unfold runTo at h2
  have hk : k - h < ((cs.drop h).takeWhile p).length := by omega
  have hm := List.getElem_mem hk
  have hp : p ((cs.drop h).takeWhile p)[k - h] = true := tw_mem (cs.drop h) _ hm
  have hpre := (List.takeWhile_prefix p (l := cs.drop h)).getElem hk
  have hlt : k - h < (cs.drop h).length := Nat.lt_of_lt_of_le hk (List.takeWhile_sublist p (l := cs.drop h)).length_le
  refine ⟨((cs.drop h).takeWhile p)[k - h], ?_, hp⟩
  rw [hpre, ← List.getElem?_eq_getElem hlt, List.getElem?_drop, show h + (k - h) = k from by omega]
theorem runTo_no (cs : List Nat) (p : Nat → Bool) (h : Nat) : cs[runTo cs p h]? = none ∨ ∃ c, cs[runTo cs p h]? = some c ∧ p c = false := by
  have key : ∀ l : List Nat, l[(l.takeWhile p).length]? = none ∨ ∃ c, l[(l.takeWhile p).length]? = some c ∧ p c = false := by
    intro l
    induction l with
    | nil => exact .inl rfl
    | cons a l ih =>
      by_cases ha : p a = true
      · rw [List.takeWhile_cons_of_pos ha, List.length_cons, List.getElem?_cons_succ]
        exact ih
      · rw [List.takeWhile_cons_of_neg ha]
        exact .inr ⟨a, rfl, by simpa using ha⟩
  have e : cs[runTo cs p h]? = (cs.drop h)[((cs.drop h).takeWhile p).length]? := by
    rw [List.getElem?_drop]; rfl
  rw [e]
  exact key _
theorem runTo_stop (cs : List Nat) (p : Nat → Bool) {h : Nat} (hn : cs[h]? = none ∨ ∃ c, cs[h]? = some c ∧ p c = false) : runTo cs p h = h := by
  unfold runTo
  rcases hn with hn | ⟨c, hc, hp⟩
  · rw [List.drop_eq_nil_of_le (List.getElem?_eq_none_iff.mp hn)]; rfl
  · obtain ⟨hl, e⟩ := List.getElem?_eq_some_iff.mp hc
    rw [List.drop_eq_getElem_cons hl, e, List.takeWhile_cons_of_neg (by simpa using hp)]; rfl
theorem runTo_step (cs : List Nat) (p : Nat → Bool) {h c : Nat} (hc : cs[h]? = some c) (hp : p c = true) : runTo cs p h = runTo cs p (h + 1) := by
  unfold runTo
  obtain ⟨hl, e⟩ := List.getElem?_eq_some_iff.mp hc
  rw [List.drop_eq_getElem_cons hl, e, List.takeWhile_cons_of_pos hp, List.length_cons]
  omega
/-- a value's end lies in the text -/
theorem num_end {cs : List Nat} {h : Nat} {p : P} {e : Nat} (hv : num cs h = some (p, e)) : h < e ∧ e ≤ cs.length := by
  unfold num at hv
  by_cases hw : wholeT (cutC cs h (runTo cs isD (h + 1))) = true
  · rw [if_pos hw] at hv
    cases hv
    refine ⟨runTo_ge cs isD (h + 1), ?_⟩
    by_cases hl : h + 1 ≤ cs.length
    · exact runTo_le cs isD hl
    · exfalso
      have e0 : cutC cs h (runTo cs isD (h + 1)) = [] := by
        unfold cutC
        rw [List.drop_eq_nil_of_le (by omega), List.take_nil]
      rw [e0] at hw
      exact absurd hw (by decide)
  · rw [if_neg hw] at hv; cases hv
theorem loopV_end {cs : List Nat} {v : Nat → Option (P × Nat)} : ∀ (f h : Nat) (acc : List P) (p : P) (e : Nat), loopV cs v f h acc = some (p, e) → e ≤ cs.length
  | 0, _, _, _, _, hv => nomatch hv
  | f + 1, h, acc, p, e, hv => by
    unfold loopV at hv
    cases hq : v h with
    | none => rw [hq] at hv; cases hv
    | some q =>
      obtain ⟨q, e1⟩ := q
      rw [hq] at hv
      dsimp only at hv
      by_cases h1 : cs[e1]? = some 93
      · rw [if_pos h1] at hv
        cases hv
        exact (List.getElem?_eq_some_iff.mp h1).1
      · rw [if_neg h1] at hv
        by_cases h2 : cs[e1]? = some 32
        · rw [if_pos h2] at hv
          exact loopV_end f _ _ _ _ hv
        · rw [if_neg h2] at hv; cases hv
theorem val_eq (cs : List Nat) (d h : Nat) : val cs d h = match cs[h]? with
    | none => none
    | some c => if isW c = true ∧ isD c = false then some (.str ⟨(cutC cs h (runTo cs isW h)).toArray⟩, runTo cs isW h)
      else if c ≠ 91 then num cs h
      else match d with
        | 0 => none
        | d + 1 => if cs[h + 1]? = some 93 then some (.tup [], h + 2) else loopV cs (val cs d) (cs.length + 1) (h + 1) [] := by
  cases d <;> rw [val]
theorem val_end {cs : List Nat} {d h : Nat} {p : P} {e : Nat} (hv : val cs d h = some (p, e)) : e ≤ cs.length := by
  rw [val_eq] at hv
  cases hc : cs[h]? with
  | none => rw [hc] at hv; cases hv
  | some c =>
    have hl := (List.getElem?_eq_some_iff.mp hc).1
    rw [hc] at hv
    dsimp only at hv
    by_cases h1 : isW c = true ∧ isD c = false
    · rw [if_pos h1] at hv
      cases hv
      exact runTo_le cs isW (Nat.le_of_lt hl)
    · rw [if_neg h1] at hv
      by_cases h2 : c ≠ 91
      · rw [if_pos h2] at hv
        exact (num_end hv).2
      · rw [if_neg h2] at hv
        cases d with
        | zero => cases hv
        | succ d =>
          dsimp only at hv
          by_cases h3 : cs[h + 1]? = some 93
          · rw [if_pos h3] at hv
            cases hv
            exact (List.getElem?_eq_some_iff.mp h3).1
          · rw [if_neg h3] at hv
            exact loopV_end _ _ _ _ _ hv
end K51

set_option Elab.async false
set_option linter.all false
set_option maxRecDepth 100000
set_option autoImplicit false
namespace K51
open MP PySem
theorem sg_ne (c : Nat) : (sg c == ("" : Str)) = false := rfl
theorem sg_inj {c d : Nat} (h : sg c = sg d) : c = d := by
  have e : (sg c).cps = (sg d).cps := congrArg _ h
  have e2 : ([c] : List Nat) = [d] := congrArg Array.toList e
  injection e2
theorem sg_eq (c d : Nat) : (sg c == sg d) = decide (c = d) := by
  by_cases h : c = d
  · subst h; simp
  · rw [decide_eq_false h]
    exact beq_eq_false_iff_ne.mpr fun e => h (sg_inj e)
theorem cop_eqs (x y : Str) : cop .eq (.str x) (.str y) = some (x == y) := rfl
theorem cop_nes (x y : Str) : cop .ne (.str x) (.str y) = some (!(x == y)) := rfl
theorem at_some {z : Str} {k c : Nat} (h : z.cps.toList[k]? = some c) : at_ z k = sg c := by unfold at_; rw [h]
theorem at_none {z : Str} {k : Nat} (h : z.cps.toList[k]? = none) : at_ z k = "" := by unfold at_; rw [h]
/-- text[k:k+1] == a sign -/
theorem at_eq (z : Str) (k d : Nat) : (at_ z k == sg d) = decide (z.cps.toList[k]? = some d) := by
  cases h : z.cps.toList[k]? with
  | none => rw [at_none h]; rfl
  | some c =>
    rw [at_some h, sg_eq]
    exact decide_eq_decide.mpr ⟨fun e => by rw [e], fun e => by injection e⟩
theorem cut_at' (z : Str) (k : Nat) : L2.cutS z (some (k : Int)) (some ((k : Int) + 1)) = at_ z k := cut_at z k
theorem cut_01 (z : Str) : L2.cutS z none (some 1) = at_ z 0 := cut_at z 0
theorem slen_toList (z : Str) : z.cps.toList.length = z.length := Array.length_toList
theorem cut_1n (z : Str) : (L2.cutS z (some 1) none).cps.toList = z.cps.toList.tail := by
  have h : HT.sIx z.length 0 (some (1 : Int)) = min 1 z.length := six z.length 0 1
  unfold L2.cutS
  rw [h]
  show (z.cps.toList.drop (min 1 z.length)).take (z.length - min 1 z.length) = _
  have hl := slen_toList z
  cases hz : z.cps.toList with
  | nil => simp
  | cons a r =>
    rw [hz] at hl
    rw [← hl, List.length_cons, Nat.min_eq_left (by omega)]
    show r.take (r.length + 1 - 1) = r
    exact List.take_of_length_le (by omega)
theorem cut_he (z : Str) {h e : Nat} (h1 : h ≤ e) (h2 : e ≤ z.length) : L2.cutS z (some (h : Int)) (some (e : Int)) = ⟨(cutC z.cps.toList h e).toArray⟩ := by
  unfold L2.cutS cutC
  rw [six, six, Nat.min_eq_left h2, Nat.min_eq_left (Nat.le_trans h1 h2)]
theorem cut_past (z : Str) {h e : Nat} (h1 : z.length ≤ h) : L2.cutS z (some (h : Int)) (some (e : Int)) = ⟨(cutC z.cps.toList h e).toArray⟩ := by
  unfold L2.cutS cutC
  rw [six, six, Nat.min_eq_right h1, List.drop_eq_nil_of_le (by rw [slen_toList]; omega), List.drop_eq_nil_of_le (by rw [slen_toList]; omega)]
  simp
/-! _law_whole_text -/
theorem mb_whole : m__law_whole_text = ⟨1, 3, b__law_whole_text, false⟩ := by kernel_rfl
theorem lk_whole : fns.lookup ("_law_whole_text" : Str) = some m__law_whole_text := by kernel_rfl
def noD (x : P) : Option P := match x with
  | .str y => match y.cps.toList with
    | [c] => if isD c = true then none else some x
    | _ => none
  | _ => none
theorem noD_len : ∀ cs : List Nat, (((cs.map fun c => P.str ⟨#[c]⟩).filterMap noD).length = 0) ↔ cs.all isD = true
  | [] => by simp
  | c :: cs => by
    have ih := noD_len cs
    rw [List.map_cons, List.all_cons]
    by_cases h : isD c = true
    · have e : noD (P.str ⟨#[c]⟩) = none := by show (if isD c = true then _ else _) = _; rw [if_pos h]
      rw [List.filterMap_cons_none e, ih, h]; simp
    · have e : noD (P.str ⟨#[c]⟩) = some (P.str ⟨#[c]⟩) := by show (if isD c = true then _ else _) = _; rw [if_neg h]
      rw [List.filterMap_cons_some e]
      simp [h]
theorem str_empty (z : Str) : (z == ("" : Str)) = z.cps.toList.isEmpty := by
  cases hz : z.cps.toList with
  | nil =>
    have e : z = "" := by
      cases z with | mk a =>
      have : a = #[] := by simpa using hz
      rw [this]; rfl
    rw [e]; rfl
  | cons a r =>
    refine beq_eq_false_iff_ne.mpr fun e => ?_
    rw [e] at hz
    cases hz
theorem str_zero (z : Str) : (z == ("0" : Str)) = decide (z.cps.toList = [48]) := by
  by_cases h : z.cps.toList = [48]
  · have e : z = "0" := by
      cases z with | mk a =>
      have : a = #[48] := by
        have := congrArg List.toArray h
        simpa using this
      rw [this]; rfl
    rw [decide_eq_true h, e]; rfl
  · rw [decide_eq_false h]
    refine beq_eq_false_iff_ne.mpr fun e => h ?_
    rw [e]; rfl
theorem idx0 {z : Str} (hz : z.length ≤ 100000) {c : Nat} {r : List Nat} (h : z.cps.toList = c :: r) : pidx (.str z) (.int 0) = some (.str (sg c)) := by
  show (if z.length ≤ sizeLine then (L2.atI z.cps.toList 0).map fun c => P.str ⟨#[c]⟩ else none) = _
  rw [if_pos (small hz), h]
  simp [L2.atI, L2.ixN, sg]
theorem whole_text {S : MP.Sto} (hS : trimS S.length S = some S) (n : Nat) {z : Str} (hz : z.length ≤ 100000) : (calls T (n + 1)).fn "_law_whole_text" [.p (.str z)] S = .ok (.p (.bl (wholeT z.cps.toList))) S := by
  rw [fn_run lk_whole, mb_whole]
  -- the body of the token
  have hb : ∃ b : Str, b.length ≤ 100000 ∧ b.cps.toList = (if z.cps.toList.head? = some 45 then z.cps.toList.tail else z.cps.toList) ∧
      ∀ L : MP.Loc, L[0]? = some (some (.p (.str z))) → ev (calls T n) (.ife (.val (.cmp .eq (.slc (.var 0) .non (.som (.lit (.int (1))))) (.lit (.str "-")))) (.slc (.var 0) (.som (.lit (.int (1)))) .non) (.var 0)) L S = .ok (.p (.str b)) S := by
    have h0 : (at_ z 0 == ("-" : Str)) = decide (z.cps.toList[0]? = some 45) := at_eq z 0 45
    rw [List.head?_eq_getElem?]
    by_cases h : z.cps.toList[0]? = some 45
    · refine ⟨L2.cutS z (some 1) none, Nat.le_trans (L2.cutS_length z _ _) hz, by rw [if_pos h, cut_1n], fun L hL => ?_⟩
      simp [bind_ok, lft_ok, ofO_some, q_var, q_lit, q_glo, q_bin, q_cmp, q_idx, q_bif, q_call, q_nil, q_cons, q_val, q_tand, q_tor, q_tnot, q_ifs, q_set, q_snil, q_scons, q_gn, q_not, q_and', q_tup, q_lst, q_isi, q_ife, q_slc, q_onon, q_osom, q_yes, q_iex, q_ir1, q_att, q_ret, rd, rds, pures, hL, slc_str none (some 1) hz, slc_str (some 1) none hz, cut_01, cop_eqs, h0, h, truth]
    · refine ⟨z, hz, by rw [if_neg h], fun L hL => ?_⟩
      rw [decide_eq_false h] at h0
      simp [bind_ok, lft_ok, ofO_some, q_var, q_lit, q_glo, q_bin, q_cmp, q_idx, q_bif, q_call, q_nil, q_cons, q_val, q_tand, q_tor, q_tnot, q_ifs, q_set, q_snil, q_scons, q_gn, q_not, q_and', q_tup, q_lst, q_isi, q_ife, q_slc, q_onon, q_osom, q_yes, q_iex, q_ir1, q_att, q_ret, rd, rds, pures, hL, slc_str none (some 1) hz, cut_01, cop_eqs, h0, truth]
  obtain ⟨b, hbl, hbc, hev⟩ := hb
  have hw : wholeT z.cps.toList = (!b.cps.toList.isEmpty && decide (b.cps.toList.length ≤ 6) && b.cps.toList.all isD && (decide (b.cps.toList.head? ≠ some 48) || decide (z.cps.toList = [48]))) := by
    unfold wholeT
    rw [hbc]
  have hcomp : compF (turnF (calls T n) [some (.p (.str z)), some (.p (.str b)), none] [2] (.name 2) (.val (.cmp .notin (.var 2) (.lit (.str "0123456789")))) (.var 2)) (chars b) [] S = .ok ((chars b).filterMap noD) S := by
    refine (comp_pure noD (chars b) [] (fun x hx => ?_) (by unfold chars; rw [List.length_map, slen_toList]; exact small (by simp; omega))).trans (by simp)
    unfold chars at hx
    obtain ⟨c, hc, rfl⟩ := List.mem_map.mp hx
    have e1 : cop .notin (.str ⟨#[c]⟩) (.str ("0123456789" : Str)) = some (!isD c) := notin_sg c _
    have e2 : noD (.str ⟨#[c]⟩) = if isD c = true then none else some (.str ⟨#[c]⟩) := rfl
    rw [e2]
    by_cases hd : isD c = true
    · rw [hd] at e1
      simp [turnF, wipe, bindT, bind_ok, lft_ok, ofO_some, q_var, q_lit, q_glo, q_bin, q_cmp, q_idx, q_bif, q_call, q_nil, q_cons, q_val, q_tand, q_tor, q_tnot, q_ifs, q_set, q_snil, q_scons, q_gn, q_not, q_and', q_tup, q_lst, q_isi, q_ife, q_slc, q_onon, q_osom, q_yes, q_iex, q_ir1, q_att, q_ret, rd, rds, pures, e1, truth, hd]
    · rw [Bool.not_eq_true] at hd
      rw [hd] at e1
      simp [turnF, wipe, bindT, bind_ok, lft_ok, ofO_some, q_var, q_lit, q_glo, q_bin, q_cmp, q_idx, q_bif, q_call, q_nil, q_cons, q_val, q_tand, q_tor, q_tnot, q_ifs, q_set, q_snil, q_scons, q_gn, q_not, q_and', q_tup, q_lst, q_isi, q_ife, q_slc, q_onon, q_osom, q_yes, q_iex, q_ir1, q_att, q_ret, rd, rds, pures, e1, truth, hd]
  have hlen : bfn .len [.str b] = some (.int b.length) := if_pos (small hbl)
  have hne : (b == ("" : Str)) = b.cps.toList.isEmpty := str_empty b
  have hz0 : (z == ("0" : Str)) = decide (z.cps.toList = [48]) := str_zero z
  have hll : b.length = b.cps.toList.length := (slen_toList b).symm
  have hlenl : bfn .len [.lst ((chars b).filterMap noD)] = some (.int ((chars b).filterMap noD).length) := rfl
  have hnd := noD_len b.cps.toList
  have ech : (b.cps.toList.map fun c => P.str ⟨#[c]⟩) = chars b := rfl
  rw [ech] at hnd
  have cgt : ∀ i j : Int, cop .gt (.int i) (.int j) = some (decide (j < i)) := fun _ _ => rfl
  have ex : exss (calls T n) b__law_whole_text (startL ⟨1, 3, b__law_whole_text, false⟩ [.p (.str z)]) S = some (.ret (.p (.bl (wholeT z.cps.toList))), S) := by
    rw [hw]
    have hev' := hev [some (.p (.str z)), none, none] rfl
    unfold b__law_whole_text
    simp only [startL, List.map, List.replicate, List.length_cons, List.length_nil, List.cons_append, List.nil_append, q_scons, q_set]
    show (match lft _ (ev (calls T n) _ [some (.p (.str z)), none, none] S) _ with | some (.nx L', S') => _ | r => r) = _
    rw [hev']
    cases he : b.cps.toList with
    | nil =>
      rw [he] at hne
      simp [bind_ok, lft_ok, ofO_some, q_var, q_lit, q_glo, q_bin, q_cmp, q_idx, q_bif, q_call, q_nil, q_cons, q_val, q_tand, q_tor, q_tnot, q_ifs, q_set, q_snil, q_scons, q_gn, q_not, q_and', q_tup, q_lst, q_isi, q_ife, q_slc, q_onon, q_osom, q_yes, q_iex, q_ir1, q_att, q_ret, rd, rds, pures, q_comp', cop_eqs, hne, truth]
    | cons c r =>
      rw [he] at hne
      by_cases h6 : b.cps.toList.length ≤ 6
      · have h6' : ¬ (6 : Int) < (b.length : Int) := by rw [hll]; omega
        have h6c : r.length + 1 ≤ 6 := by rw [he] at h6; simpa using h6
        by_cases had : b.cps.toList.all isD = true
        · have hl0 := hnd.mpr had
          have had' := had
          rw [he] at had'
          have hi0 := idx0 hbl he
          have hn48 : (sg c == ("0" : Str)) = decide (c = 48) := sg_eq c 48
          simp only [List.all_cons, Bool.and_eq_true] at had'
          by_cases h48 : c = 48
          · subst h48
            have hn : (sg 48 == ("0" : Str)) = true := rfl
            simp [bind_ok, lft_ok, ofO_some, q_var, q_lit, q_glo, q_bin, q_cmp, q_idx, q_bif, q_call, q_nil, q_cons, q_val, q_tand, q_tor, q_tnot, q_ifs, q_set, q_snil, q_scons, q_gn, q_not, q_and', q_tup, q_lst, q_isi, q_ife, q_slc, q_onon, q_osom, q_yes, q_iex, q_ir1, q_att, q_ret, rd, rds, pures, q_comp', walk, cop_eqs, cop_nes, cgt, hne, truth, hlen, h6', hcomp, noEx, hlenl, hl0, hi0, hn, hz0, q_or', h6c, had'.1, had'.2]
          · rw [decide_eq_false h48] at hn48
            simp [bind_ok, lft_ok, ofO_some, q_var, q_lit, q_glo, q_bin, q_cmp, q_idx, q_bif, q_call, q_nil, q_cons, q_val, q_tand, q_tor, q_tnot, q_ifs, q_set, q_snil, q_scons, q_gn, q_not, q_and', q_tup, q_lst, q_isi, q_ife, q_slc, q_onon, q_osom, q_yes, q_iex, q_ir1, q_att, q_ret, rd, rds, pures, q_comp', walk, cop_eqs, cop_nes, cgt, hne, truth, hlen, h6', hcomp, noEx, hlenl, hl0, hi0, hn48, h48, hz0, q_or', h6c, had'.1, had'.2]
        · have hl0 : 0 < ((chars b).filterMap noD).length := Nat.pos_of_ne_zero fun e => had (hnd.mp e)
          have hl0' : (0 : Int) < (((chars b).filterMap noD).length : Int) := by omega
          have had' : (c :: r).all isD = false := by rw [← he]; simpa using had
          simp [bind_ok, lft_ok, ofO_some, q_var, q_lit, q_glo, q_bin, q_cmp, q_idx, q_bif, q_call, q_nil, q_cons, q_val, q_tand, q_tor, q_tnot, q_ifs, q_set, q_snil, q_scons, q_gn, q_not, q_and', q_tup, q_lst, q_isi, q_ife, q_slc, q_onon, q_osom, q_yes, q_iex, q_ir1, q_att, q_ret, rd, rds, pures, q_comp', walk, cop_eqs, cgt, hne, truth, hlen, h6', hcomp, noEx, hlenl, hl0']
          rw [List.all_cons] at had'
          rw [if_pos (decide_eq_true hl0'), had']
          simp
      · have h6' : (6 : Int) < (b.length : Int) := by rw [hll]; omega
        have h6c : ¬ r.length + 1 ≤ 6 := by rw [he] at h6; simpa using h6
        simp [bind_ok, lft_ok, ofO_some, q_var, q_lit, q_glo, q_bin, q_cmp, q_idx, q_bif, q_call, q_nil, q_cons, q_val, q_tand, q_tor, q_tnot, q_ifs, q_set, q_snil, q_scons, q_gn, q_not, q_and', q_tup, q_lst, q_isi, q_ife, q_slc, q_onon, q_osom, q_yes, q_iex, q_ir1, q_att, q_ret, rd, rds, pures, q_comp', walk, cop_eqs, cgt, hne, truth, hlen, h6', h6c]
  exact (run_ret rfl ex hS).trans rfl
end K51

set_option Elab.async false
set_option linter.all false
set_option maxRecDepth 100000
set_option autoImplicit false
namespace K51
open MP PySem
def tupI (t : List Int) : P := .tup (t.map .int)
theorem ints_map (ns : List Int) : P.ints? (ns.map P.int) = some ns := by
  induction ns with
  | nil => rfl
  | cons n ns ih =>
    show (P.ints? (ns.map P.int)).map (n :: ·) = _
    rw [ih]; rfl
theorem tups_map (ts : List (List Int)) : P.tups? (ts.map tupI) = some ts := by
  induction ts with
  | nil => rfl
  | cons t ts ih =>
    show ((P.ints? (t.map P.int)).bind fun ns => (P.tups? (ts.map tupI)).map (ns :: ·)) = _
    rw [ints_map, ih]; rfl
theorem insBy_len {α : Type} (lt : α → α → Bool) (x : α) : ∀ l : List α, (insBy lt x l).length ≤ l.length + 1
  | [] => by simp [insBy]
  | y :: r => by
    unfold insBy
    have := insBy_len lt x r
    split
    · simp
    · split
      · simp; omega
      · simp
theorem sortBy_len {α : Type} (lt : α → α → Bool) : ∀ l : List α, (sortBy lt l).length ≤ l.length
  | [] => by simp [sortBy]
  | x :: r => by
    have h1 := insBy_len lt x (sortBy lt r)
    have h2 := sortBy_len lt r
    show (insBy lt x (sortBy lt r)).length ≤ _
    rw [List.length_cons]; omega
theorem srt_ints {ns : List Int} (h : ns.length < 64) : srtP (.lst (ns.map .int)) = some (.lst ((sortBy ltI ns).map .int)) := by
  show (if (ns.map P.int).length < 64 then (match P.ints? (ns.map P.int) with
    | some ns => some (P.lst ((sortBy ltI ns).map .int))
    | none => (P.tups? (ns.map P.int)).map fun ts => .lst ((sortBy ltT ts).map fun t => .tup (t.map .int))) else none) = _
  rw [if_pos (by simpa using h), ints_map]
theorem srt_tups {ts : List (List Int)} (h : ts.length < 64) : srtP (.lst (ts.map tupI)) = some (.lst ((sortBy ltT ts).map tupI)) := by
  show (if (ts.map tupI).length < 64 then (match P.ints? (ts.map tupI) with
    | some ns => some (P.lst ((sortBy ltI ns).map .int))
    | none => (P.tups? (ts.map tupI)).map fun ts => .lst ((sortBy ltT ts).map fun t => .tup (t.map .int))) else none) = _
  rw [if_pos (by simpa using h)]
  cases ts with
  | nil => rfl
  | cons t r =>
    have e : P.ints? ((t :: r).map tupI) = none := rfl
    rw [e, tups_map]; rfl
theorem as_map {α : Type} {f : α → P} {Q : α → Prop} : ∀ {zs : List P}, (∀ z ∈ zs, ∃ t, z = f t ∧ Q t) → ∃ ts : List α, zs = ts.map f ∧ ∀ t ∈ ts, Q t
  | [], _ => ⟨[], rfl, by simp⟩
  | z :: zs, h => by
    obtain ⟨t, e, q⟩ := h z (by simp)
    obtain ⟨ts, e2, q2⟩ := as_map fun z m => h z (List.mem_cons_of_mem _ m)
    refine ⟨t :: ts, by rw [e, e2]; rfl, fun x m => ?_⟩
    rcases List.mem_cons.mp m with c | c
    · rw [c]; exact q
    · exact q2 x c
theorem okv_tupI {t : List Int} {k w : Nat} (h : ∀ i ∈ t, 0 ≤ i ∧ i < 1000) (hk : t.length ≤ k) (hw : k * 5 + 2 ≤ w) : Okv 1 w (tupI t) := by
  refine .tup (k := k) (v := 4) (fun x m => ?_) (by simpa using hk) hw
  obtain ⟨i, hi, rfl⟩ := List.mem_map.mp m
  exact .int (h i hi).1 (h i hi).2 (by omega)
theorem bop_ii (i j : Int) : bop .add (.int i) (.int j) = some (.int (i + j)) := rfl
theorem bop_mm {i j : Int} (h : -(2 ^ 64) < i ∧ i < 2 ^ 64) : bop .mul (.int i) (.int j) = some (.int (i * j)) := if_pos (.inl h)
theorem bfn_tup (l : List P) : bfn .tuple [.lst l] = some (.tup l) := rfl
theorem mb_fork : m__law_fork = ⟨2, 5, b__law_fork, false⟩ := by kernel_rfl
theorem lk_fork : fns.lookup ("_law_fork" : Str) = some m__law_fork := by kernel_rfl
theorem fork {l : List Int} {S : MP.Sto} (n : Nat) (h : Pool l S) {m : Int} (h0 : 0 < m) (h1 : m ≤ 3) : ∃ (p : P) (S' : MP.Sto), Pool l S' ∧ (calls T (n + 4)).fn "_law_fork" [.ref 0, .p (.int m)] S = .ok (.p p) S' ∧ Okv 3 1000 p := by
  obtain ⟨r, S1, r0, r1, hS1, e1⟩ := draw (n + 1) h (m := m) h0 (by omega)
  obtain ⟨c, S2, c0, c1, hS2, e2⟩ := draw (n + 1) hS1 (m := 2 * (1 + r) + 2) (by omega) (by omega)
  obtain ⟨zs, S3, e3, hS3, pr, hl⟩ := comp_pool (l := l) (turn := turnF (calls T (n + 3)) [some (.ref 0), some (.p (.int m)), some (.p (.int (1 + r))), none, none] [4] (.name 4) .yes (.tup (.cons (.call "_law_draw" (.cons (.var 0) (.cons (.var 2) .nil))) (.cons (.call "_law_draw" (.cons (.var 0) (.cons (.lit (.int (3))) .nil))) (.cons (.call "_law_draw" (.cons (.var 0) (.cons (.var 2) .nil))) .nil)))))
    (Pr := fun x => ∃ t : List Int, x = tupI t ∧ (t.length ≤ 3 ∧ ∀ i ∈ t, 0 ≤ i ∧ i < 1000)) (rangeP 0 c.toNat) [] S2 hS2 (fun x hx S hS => by
      obtain ⟨k, rfl, k0, k1⟩ := range_mem hx
      obtain ⟨a, S3, a0, a1, hS3, ea⟩ := draw (n + 1) hS (m := 1 + r) (by omega) (by omega)
      obtain ⟨b, S4, b0, b1, hS4, eb⟩ := draw (n + 1) hS3 (m := 3) (by omega) (by omega)
      obtain ⟨d, S5, d0, d1, hS5, ed⟩ := draw (n + 1) hS4 (m := 1 + r) (by omega) (by omega)
      refine ⟨some (.tup [.int a, .int b, .int d]), S5, ?_, hS5, fun z hz => ?_⟩
      · simp [turnF, wipe, bindT, bind_ok, lft_ok, ofO_some, q_var, q_lit, q_glo, q_bin, q_cmp, q_idx, q_bif, q_call, q_nil, q_cons, q_val, q_tand, q_tor, q_tnot, q_ifs, q_set, q_snil, q_scons, q_gn, q_not, q_and', q_tup, q_lst, q_isi, q_ife, q_slc, q_onon, q_osom, q_yes, q_iex, q_ir1, q_att, q_ret, rd, rds, pures, ea, eb, ed, cut3]
      · cases hz
        exact ⟨[a, b, d], rfl, by simp, by simp; omega⟩) (by rw [range_len]; exact small (by simp; omega))
  obtain ⟨ts, rfl, ht⟩ := as_map pr
  rw [range_len] at hl
  have hl' : ts.length ≤ 7 := by simpa using (by omega : (ts.map tupI).length ≤ 7)
  have es := srt_tups (ts := ts) (by omega)
  obtain ⟨q, S4, hS4, e4, hq, pq⟩ := some_of n hS3 (m := 1 + r) (by omega) (by omega)
  obtain ⟨q2, S5, hS5, e5, hq2, pq2⟩ := some_of n hS4 (m := 1 + r) (by omega) (by omega)
  refine ⟨.tup [.int (1 + r), .tup q, .tup ((sortBy ltT ts).map tupI), .tup q2], S5, hS5, ?_, ?_⟩
  · rw [fn_run lk_fork, mb_fork]
    have ex : exss (calls T (n + 3)) b__law_fork (startL ⟨2, 5, b__law_fork, false⟩ [.ref 0, .p (.int m)]) S = some (.ret (.p (.tup [.int (1 + r), .tup q, .tup ((sortBy ltT ts).map tupI), .tup q2])), S5) := by
      simp [b__law_fork, startL, bind_ok, lft_ok, ofO_some, q_var, q_lit, q_glo, q_bin, q_cmp, q_idx, q_bif, q_call, q_nil, q_cons, q_val, q_tand, q_tor, q_tnot, q_ifs, q_set, q_snil, q_scons, q_gn, q_not, q_and', q_tup, q_lst, q_isi, q_ife, q_slc, q_onon, q_osom, q_yes, q_iex, q_ir1, q_att, q_ret, rd, rds, pures, q_comp, q_srt, rng1, bop_ii, bop_mm (show -(2 ^ 64) < (2 : Int) ∧ (2 : Int) < 2 ^ 64 by decide), bfn_tup, inR_ok (show 0 ≤ c by omega) (by omega), e1, e2, e3, e4, e5, es, noEx, cut4]
    exact (run_ret rfl ex (pool_trim h hS5)).trans rfl
  · refine .tup (k := 4) (v := 200) ?_ (by simp) (by omega)
    have hin : ∀ {q : List P}, q.length ≤ (1 + r).toNat → (∀ x ∈ q, ∃ k : Int, x = .int k ∧ 0 ≤ k ∧ k < 1 + r) → Okv 2 200 (.tup q) := fun hq pq => by
      refine .tup (k := 3) (v := 4) (fun x m => ?_) (by omega) (by omega)
      obtain ⟨k, rfl, k0, k1⟩ := pq x m
      exact .int k0 (by omega) (by omega)
    intro x hx
    simp only [List.mem_cons, List.not_mem_nil, or_false] at hx
    rcases hx with rfl | rfl | rfl | rfl
    · exact .int (by omega) (by omega) (by omega)
    · exact hin hq pq
    · refine .tup (k := 7) (v := 17) (fun x m => ?_) ?_ (by omega)
      · obtain ⟨t, hm, rfl⟩ := List.mem_map.mp m
        have := ht t ((sortBy_mem lin_T ts t).mp hm)
        exact okv_tupI (k := 3) this.2 this.1 (by omega)
      · rw [List.length_map]
        have := sortBy_len ltT ts
        omega
    · exact hin hq2 pq2
theorem mb_choices : m__law_choices = ⟨2, 5, b__law_choices, false⟩ := by kernel_rfl
theorem lk_choices : fns.lookup ("_law_choices" : Str) = some m__law_choices := by kernel_rfl
theorem choices {l : List Int} {S : MP.Sto} (n : Nat) (h : Pool l S) {m : Int} (h0 : 0 < m) (h1 : m ≤ 3) : ∃ (p : P) (S' : MP.Sto), Pool l S' ∧ (calls T (n + 3)).fn "_law_choices" [.ref 0, .p (.int m)] S = .ok (.p p) S' ∧ Okv 2 28 p := by
  obtain ⟨c, S1, c0, c1, hS1, e1⟩ := draw n h (m := 3) (by omega) (by omega)
  obtain ⟨zs, S2, e2, hS2, pr, hl⟩ := comp_pool (l := l) (turn := turnF (calls T (n + 2)) [some (.ref 0), some (.p (.int m)), none, none, none] [4] (.name 4) .yes (.bif .tuple (.cons (.srt (.comp [3] (.name 3) (.r1 (.call "_law_draw" (.cons (.var 0) (.cons (.lit (.int (3))) .nil)))) .yes (.call "_law_draw" (.cons (.var 0) (.cons (.var 1) .nil))))) .nil)))
    (Pr := fun x => ∃ t : List Int, x = tupI t ∧ (t.length ≤ 2 ∧ ∀ i ∈ t, 0 ≤ i ∧ i < 1000)) (rangeP 0 c.toNat) [] S1 hS1 (fun x hx S hS => by
      obtain ⟨k, rfl, k0, k1⟩ := range_mem hx
      obtain ⟨d, S3, d0, d1, hS3, ed⟩ := draw n hS (m := 3) (by omega) (by omega)
      obtain ⟨ys, S4, e4, hS4, pr4, hl4⟩ := comp_pool (l := l) (turn := turnF (calls T (n + 2)) [some (.ref 0), some (.p (.int m)), none, none, some (.p (.int k))] [3] (.name 3) .yes (.call "_law_draw" (.cons (.var 0) (.cons (.var 1) .nil))))
        (Pr := fun x => ∃ t : Int, x = P.int t ∧ (0 ≤ t ∧ t < m)) (rangeP 0 d.toNat) [] S3 hS3 (fun x hx S hS => by
          obtain ⟨k, rfl, k0, k1⟩ := range_mem hx
          obtain ⟨a, S5, a0, a1, hS5, ea⟩ := draw n hS (m := m) (by omega) (by omega)
          refine ⟨some (.int a), S5, ?_, hS5, fun z hz => ?_⟩
          · simp [turnF, wipe, bindT, bind_ok, lft_ok, ofO_some, q_var, q_lit, q_glo, q_bin, q_cmp, q_idx, q_bif, q_call, q_nil, q_cons, q_val, q_tand, q_tor, q_tnot, q_ifs, q_set, q_snil, q_scons, q_gn, q_not, q_and', q_tup, q_lst, q_isi, q_ife, q_slc, q_onon, q_osom, q_yes, q_iex, q_ir1, q_att, q_ret, rd, rds, pures, ea]
          · cases hz; exact ⟨a, rfl, a0, a1⟩) (by rw [range_len]; exact small (by simp; omega))
      obtain ⟨ns, rfl, hn⟩ := as_map pr4
      rw [range_len] at hl4
      have hl4' : ns.length ≤ 2 := by simpa using (by omega : (ns.map P.int).length ≤ 2)
      have es := srt_ints (ns := ns) (by omega)
      refine ⟨some (tupI (sortBy ltI ns)), S4, ?_, hS4, fun z hz => ?_⟩
      · simp [turnF, wipe, bindT, bind_ok, lft_ok, ofO_some, q_var, q_lit, q_glo, q_bin, q_cmp, q_idx, q_bif, q_call, q_nil, q_cons, q_val, q_tand, q_tor, q_tnot, q_ifs, q_set, q_snil, q_scons, q_gn, q_not, q_and', q_tup, q_lst, q_isi, q_ife, q_slc, q_onon, q_osom, q_yes, q_iex, q_ir1, q_att, q_ret, rd, rds, pures, q_comp, q_srt, rng1, bfn_tup, inR_ok (show 0 ≤ d by omega) (by omega), ed, noEx]
        simp [turnF] at e4
        simp [e4, bind_ok, ofO_some, es, noEx, rd, rds, bfn_tup, tupI]
      · cases hz
        refine ⟨_, rfl, ?_, fun i m => ?_⟩
        · have := sortBy_len ltI ns
          omega
        · have := hn i ((sortBy_mem lin_I ns i).mp m)
          omega) (by rw [range_len]; exact small (by simp; omega))
  obtain ⟨ts, rfl, ht⟩ := as_map pr
  rw [range_len] at hl
  have hl' : ts.length ≤ 2 := by simpa using (by omega : (ts.map tupI).length ≤ 2)
  have es := srt_tups (ts := ts) (by omega)
  refine ⟨.tup ((sortBy ltT ts).map tupI), S2, hS2, ?_, ?_⟩
  · rw [fn_run lk_choices, mb_choices]
    have ex : exss (calls T (n + 2)) b__law_choices (startL ⟨2, 5, b__law_choices, false⟩ [.ref 0, .p (.int m)]) S = some (.ret (.p (.tup ((sortBy ltT ts).map tupI))), S2) := by
      simp [b__law_choices, startL, bind_ok, lft_ok, ofO_some, q_var, q_lit, q_glo, q_bin, q_cmp, q_idx, q_bif, q_call, q_nil, q_cons, q_val, q_tand, q_tor, q_tnot, q_ifs, q_set, q_snil, q_scons, q_gn, q_not, q_and', q_tup, q_lst, q_isi, q_ife, q_slc, q_onon, q_osom, q_yes, q_iex, q_ir1, q_att, q_ret, rd, rds, pures, q_comp, q_srt, rng1, bfn_tup, inR_ok (show 0 ≤ c by omega) (by omega), e1, e2, es, noEx]
    exact (run_ret rfl ex (pool_trim h hS2)).trans rfl
  · refine .tup (k := 2) (v := 12) (fun x m => ?_) ?_ (by omega)
    · obtain ⟨t, hm, rfl⟩ := List.mem_map.mp m
      have := ht t ((sortBy_mem lin_T ts t).mp hm)
      exact okv_tupI (k := 2) this.2 this.1 (by omega)
    · rw [List.length_map]
      have := sortBy_len ltT ts
      omega
theorem mb_chooser : m__law_chooser = ⟨2, 4, b__law_chooser, false⟩ := by kernel_rfl
theorem lk_chooser : fns.lookup ("_law_chooser" : Str) = some m__law_chooser := by kernel_rfl
theorem chooser {l : List Int} {S : MP.Sto} (n : Nat) (h : Pool l S) {m : Int} (h0 : 0 < m) (h1 : m ≤ 2) : ∃ (p : P) (S' : MP.Sto), Pool l S' ∧ (calls T (n + 4)).fn "_law_chooser" [.ref 0, .p (.int m)] S = .ok (.p p) S' ∧ Okv 5 1000 p := by
  obtain ⟨r, S1, r0, r1, hS1, e1⟩ := draw (n + 1) h (m := m) h0 (by omega)
  obtain ⟨p, S2, hS2, e2, o2⟩ := choices n hS1 (m := 1 + r) (by omega) (by omega)
  obtain ⟨zs, S3, e3, hS3, pr, hl⟩ := comp_pool (l := l) (turn := turnF (calls T (n + 3)) [some (.ref 0), some (.p (.int m)), some (.p (.int (1 + r))), none] [3] (.name 3) .yes (.tup (.cons (.call "_law_choices" (.cons (.var 0) (.cons (.var 2) .nil))) (.cons (.call "_law_choices" (.cons (.var 0) (.cons (.var 2) .nil))) .nil))))
    (Pr := fun x => Okv 3 60 x) (rangeP 0 (1 + r).toNat) [] S2 hS2 (fun x hx S hS => by
      obtain ⟨k, rfl, k0, k1⟩ := range_mem hx
      obtain ⟨a, S4, hS4, ea, oa⟩ := choices n hS (m := 1 + r) (by omega) (by omega)
      obtain ⟨b, S5, hS5, eb, ob⟩ := choices n hS4 (m := 1 + r) (by omega) (by omega)
      refine ⟨some (.tup [a, b]), S5, ?_, hS5, fun z hz => ?_⟩
      · simp [turnF, wipe, bindT, bind_ok, lft_ok, ofO_some, q_var, q_lit, q_glo, q_bin, q_cmp, q_idx, q_bif, q_call, q_nil, q_cons, q_val, q_tand, q_tor, q_tnot, q_ifs, q_set, q_snil, q_scons, q_gn, q_not, q_and', q_tup, q_lst, q_isi, q_ife, q_slc, q_onon, q_osom, q_yes, q_iex, q_ir1, q_att, q_ret, rd, rds, pures, ea, eb, cut2]
      · cases hz
        exact .tup (k := 2) (v := 28) (by simp; exact ⟨oa, ob⟩) (by simp) (by omega)) (by rw [range_len]; exact small (by simp; omega))
  rw [range_len] at hl
  obtain ⟨q, S4, hS4, e4, hq, pq⟩ := some_of n hS3 (m := 1 + r) (by omega) (by omega)
  refine ⟨.tup [p, .tup zs, .tup q], S4, hS4, ?_, ?_⟩
  · rw [fn_run lk_chooser, mb_chooser]
    have ex : exss (calls T (n + 3)) b__law_chooser (startL ⟨2, 4, b__law_chooser, false⟩ [.ref 0, .p (.int m)]) S = some (.ret (.p (.tup [p, .tup zs, .tup q])), S4) := by
      simp [b__law_chooser, startL, bind_ok, lft_ok, ofO_some, q_var, q_lit, q_glo, q_bin, q_cmp, q_idx, q_bif, q_call, q_nil, q_cons, q_val, q_tand, q_tor, q_tnot, q_ifs, q_set, q_snil, q_scons, q_gn, q_not, q_and', q_tup, q_lst, q_isi, q_ife, q_slc, q_onon, q_osom, q_yes, q_iex, q_ir1, q_att, q_ret, rd, rds, pures, q_comp, rng1, bop_ii, bfn_tup, inR_ok (show 0 ≤ 1 + r by omega) (by omega), e1, e2, e3, e4, noEx, cut3]
    exact (run_ret rfl ex (pool_trim h hS4)).trans rfl
  · refine .tup (k := 3) (v := 124) ?_ (by simp) (by omega)
    intro x hx
    simp only [List.mem_cons, List.not_mem_nil, or_false] at hx
    rcases hx with rfl | rfl | rfl
    · exact o2.mono (by omega) (by omega)
    · exact .tup (k := 2) (v := 60) (fun x m => pr x m) (by omega) (by omega)
    · refine .tup (k := 2) (v := 4) (fun x m => ?_) (by omega) (by omega)
      obtain ⟨k, rfl, k0, k1⟩ := pq x m
      exact .int k0 (by omega) (by omega)
end K51

set_option Elab.async false
set_option linter.all false
set_option maxRecDepth 100000
set_option autoImplicit false
namespace K51
open MP PySem
theorem mb_taken : m__law_taken = ⟨3, 8, b__law_taken, false⟩ := by kernel_rfl
theorem lk_taken : fns.lookup ("_law_taken" : Str) = some m__law_taken := by kernel_rfl
theorem cop_lt (i j : Int) : cop .lt (.int i) (.int j) = some (decide (i < j)) := rfl
theorem cop_isn (p : P) : cop .is_ p .non = some (isNon p) := by cases p <;> rfl
theorem len_str {z : Str} (hz : z.length ≤ 100000) : bfn .len [.str z] = some (.int z.length) := if_pos (small hz)
theorem idx_at {z : Str} (hz : z.length ≤ 100000) {k c : Nat} (h : z.cps.toList[k]? = some c) : pidx (.str z) (.int (k : Int)) = some (.str (sg c)) := by
  obtain ⟨hk, e⟩ := List.getElem?_eq_some_iff.mp h
  have hx : L2.atI z.cps.toList (k : Int) = some c := by
    have hk' : k < z.cps.size := by simpa using hk
    unfold L2.atI L2.ixN
    simp [hk']
    exact (by simpa using e)
  show (if z.length ≤ sizeLine then (L2.atI z.cps.toList (k : Int)).map fun c => P.str ⟨#[c]⟩ else none) = _
  rw [if_pos (small hz), hx]; rfl
def tW : MT := (.and (.val (.cmp .lt (.var 4) (.bif .len (.cons (.var 0) .nil)))) (.val (.call "_law_word_sign" (.cons (.idx (.var 0) (.var 4)) .nil))))
def tD : MT := (.and (.val (.cmp .lt (.var 4) (.bif .len (.cons (.var 0) .nil)))) (.val (.cmp .in_ (.idx (.var 0) (.var 4)) (.lit (.str "0123456789")))))
def b4 : MSs := (.cons (.set (.g (.name 4)) (.bin .add (.var 4) (.lit (.int (1))))) .nil)
def L8 (z : Str) (h : Nat) (D : Int) (sign : P) (e : Option W) : MP.Loc := [some (.p (.str z)), some (.p (.int (h : Int))), some (.p (.int D)), some (.p sign), e, none, none, none]
section
variable {S : MP.Sto} (hS : trimS S.length S = some S) (n : Nat) {z : Str} (hz : z.length ≤ 100000)
include hz
include hS in
theorem tW_at {h : Nat} {D : Int} {sg' : P} {k : Nat} : evT (calls T (n + 1)) tW (L8 z h D sg' (some (.p (.int (k : Int))))) S = .ok (match z.cps.toList[k]? with | some c => isW c | none => false) S := by
  have hl := slen_toList z
  cases hc : z.cps.toList[k]? with
  | none =>
    have hk : ¬ (k : Int) < (z.length : Int) := by
      have := List.getElem?_eq_none_iff.mp hc
      omega
    simp [tW, L8, bind_ok, lft_ok, ofO_some, q_var, q_lit, q_glo, q_bin, q_cmp, q_idx, q_bif, q_call, q_nil, q_cons, q_val, q_tand, q_tor, q_tnot, q_ifs, q_set, q_snil, q_scons, q_gn, q_not, q_and', q_tup, q_lst, q_isi, q_ife, q_slc, q_onon, q_osom, q_yes, q_iex, q_ir1, q_att, q_ret, rd, rds, pures, len_str hz, cop_lt, hk, truth]
  | some c =>
    have hk : (k : Int) < (z.length : Int) := by
      have := (List.getElem?_eq_some_iff.mp hc).1
      omega
    have hw := word_sign hS n c
    have e : decide (c ∈ wordC.cps.toList) = isW c := rfl
    rw [e] at hw
    simp [tW, L8, bind_ok, lft_ok, ofO_some, q_var, q_lit, q_glo, q_bin, q_cmp, q_idx, q_bif, q_call, q_nil, q_cons, q_val, q_tand, q_tor, q_tnot, q_ifs, q_set, q_snil, q_scons, q_gn, q_not, q_and', q_tup, q_lst, q_isi, q_ife, q_slc, q_onon, q_osom, q_yes, q_iex, q_ir1, q_att, q_ret, rd, rds, pures, len_str hz, cop_lt, hk, truth, idx_at hz hc, hw]
theorem tD_at {h : Nat} {D : Int} {sg' : P} {k : Nat} : evT (calls T n) tD (L8 z h D sg' (some (.p (.int (k : Int))))) S = .ok (match z.cps.toList[k]? with | some c => isD c | none => false) S := by
  have hl := slen_toList z
  cases hc : z.cps.toList[k]? with
  | none =>
    have hk : ¬ (k : Int) < (z.length : Int) := by
      have := List.getElem?_eq_none_iff.mp hc
      omega
    simp [tD, L8, bind_ok, lft_ok, ofO_some, q_var, q_lit, q_glo, q_bin, q_cmp, q_idx, q_bif, q_call, q_nil, q_cons, q_val, q_tand, q_tor, q_tnot, q_ifs, q_set, q_snil, q_scons, q_gn, q_not, q_and', q_tup, q_lst, q_isi, q_ife, q_slc, q_onon, q_osom, q_yes, q_iex, q_ir1, q_att, q_ret, rd, rds, pures, len_str hz, cop_lt, hk, truth]
  | some c =>
    have hk : (k : Int) < (z.length : Int) := by
      have := (List.getElem?_eq_some_iff.mp hc).1
      omega
    have e : cop .in_ (.str (sg c)) (.str ("0123456789" : Str)) = some (isD c) := in_sg c _
    simp [tD, L8, bind_ok, lft_ok, ofO_some, q_var, q_lit, q_glo, q_bin, q_cmp, q_idx, q_bif, q_call, q_nil, q_cons, q_val, q_tand, q_tor, q_tnot, q_ifs, q_set, q_snil, q_scons, q_gn, q_not, q_and', q_tup, q_lst, q_isi, q_ife, q_slc, q_onon, q_osom, q_yes, q_iex, q_ir1, q_att, q_ret, rd, rds, pures, len_str hz, cop_lt, hk, truth, idx_at hz hc, e]
omit hz in
theorem b4_at {h : Nat} {D : Int} {sg' : P} {k : Nat} : exss (calls T n) b4 (L8 z h D sg' (some (.p (.int (k : Int))))) S = some (.nx (L8 z h D sg' (some (.p (.int ((k + 1 : Nat) : Int))))), S) := by
  simp [b4, L8, bind_ok, lft_ok, ofO_some, q_var, q_lit, q_glo, q_bin, q_cmp, q_idx, q_bif, q_call, q_nil, q_cons, q_val, q_tand, q_tor, q_tnot, q_ifs, q_set, q_snil, q_scons, q_gn, q_not, q_and', q_tup, q_lst, q_isi, q_ife, q_slc, q_onon, q_osom, q_yes, q_iex, q_ir1, q_att, q_ret, rd, rds, pures, bop]
include hS in
theorem loopW {h : Nat} {D : Int} {sg' : P} (hh : h ≤ z.length) : whlF (evT (calls T (n + 1)) tW) (exss (calls T (n + 1)) b4) fuel (L8 z h D sg' (some (.p (.int (h : Int))))) S = some (.nx (L8 z h D sg' (some (.p (.int (runTo z.cps.toList isW h : Nat))))), S) := by
  have hl := slen_toList z
  have hr := runTo_le z.cps.toList isW (h := h) (by omega)
  have hg := runTo_ge z.cps.toList isW h
  have := whl_run (t := evT (calls T (n + 1)) tW) (b := exss (calls T (n + 1)) b4) (n := runTo z.cps.toList isW h - h) (fun k => L8 z h D sg' (some (.p (.int ((h + k : Nat) : Int))))) (fun _ => S)
    (fun k hk => by
      obtain ⟨c, e1, e2⟩ := runTo_yes z.cps.toList isW h (h + k) (by omega) (by omega)
      rw [tW_at hS n hz, e1]
      show Res.ok (isW c) S = _
      rw [e2])
    (fun k hk => b4_at (n + 1))
    (by
      rw [tW_at hS n hz, show h + (runTo z.cps.toList isW h - h) = runTo z.cps.toList isW h from by omega]
      rcases runTo_no z.cps.toList isW h with e | ⟨c, e, e2⟩
      · rw [e]
      · rw [e]
        show Res.ok (isW c) S = _
        rw [e2]) fuel (fuel_gt (by omega))
  rw [show h + (runTo z.cps.toList isW h - h) = runTo z.cps.toList isW h from by omega] at this
  exact this
theorem loopD {h g : Nat} {D : Int} {sg' : P} (hh : g ≤ z.length + 1) : whlF (evT (calls T n) tD) (exss (calls T n) b4) fuel (L8 z h D sg' (some (.p (.int (g : Int))))) S = some (.nx (L8 z h D sg' (some (.p (.int (runTo z.cps.toList isD g : Nat))))), S) := by
  have hl := slen_toList z
  have hg := runTo_ge z.cps.toList isD g
  have hr : runTo z.cps.toList isD g ≤ z.length + 1 := by
    by_cases hq : g ≤ z.cps.toList.length
    · have := runTo_le z.cps.toList isD hq
      omega
    · rw [runTo_stop z.cps.toList isD (.inl (List.getElem?_eq_none (by omega)))]
      exact hh
  have := whl_run (t := evT (calls T n) tD) (b := exss (calls T n) b4) (n := runTo z.cps.toList isD g - g) (fun k => L8 z h D sg' (some (.p (.int ((g + k : Nat) : Int))))) (fun _ => S)
    (fun k hk => by
      obtain ⟨c, e1, e2⟩ := runTo_yes z.cps.toList isD g (g + k) (by omega) (by omega)
      rw [tD_at n hz, e1]
      show Res.ok (isD c) S = _
      rw [e2])
    (fun k hk => b4_at n)
    (by
      rw [tD_at n hz, show g + (runTo z.cps.toList isD g - g) = runTo z.cps.toList isD g from by omega]
      rcases runTo_no z.cps.toList isD g with e | ⟨c, e, e2⟩
      · rw [e]
      · rw [e]
        show Res.ok (isD c) S = _
        rw [e2]) fuel (fuel_gt (by omega))
  rw [show g + (runTo z.cps.toList isD g - g) = runTo z.cps.toList isD g from by omega] at this
  exact this
end
/-! the numbers -/
theorem digs {cs : List Nat} (h : cs.all isD = true) : PySem.NumText.AllDigits cs := fun c m => by
  have := List.all_eq_true.mp h c m
  have e : digC.cps.toList = [48, 49, 50, 51, 52, 53, 54, 55, 56, 57] := by decide +kernel
  unfold isD at this
  rw [e] at this
  simp at this
  omega
theorem digs_not45 {cs : List Nat} (h : cs.all isD = true) : cs.head? ≠ some 45 := by
  cases cs with
  | nil => simp
  | cons c r =>
    have := digs h c (List.mem_cons_self ..)
    simp; omega
theorem int_digs {t : List Nat} (h : t.all isD = true) (h1 : t ≠ []) (h2 : t.length ≤ 640) : bfn .int [.str ⟨t.toArray⟩] = some (.int ((PySem.NumText.digitsVal t : Nat) : Int)) := by
  have e := PySem.intText_digits (x := ⟨t.toArray⟩) (by simpa using digs h) (by simpa using h1) (by simp [Str.length]; omega)
  show (if (Str.mk t.toArray).length ≤ 640 then (intText? ⟨t.toArray⟩).map P.int else none) = _
  rw [if_pos (by simpa [Str.length] using h2), e]
  simp
theorem whole_parts {t : List Nat} (hw : wholeT t = true) : ∃ b : List Nat, b ≠ [] ∧ b.length ≤ 6 ∧ b.all isD = true ∧ ((t = 45 :: b) ∨ (t = b ∧ t.head? ≠ some 45)) := by
  unfold wholeT at hw
  simp only [Bool.and_eq_true, decide_eq_true_eq] at hw
  obtain ⟨⟨⟨h1, h2⟩, h3⟩, _⟩ := hw
  by_cases h : t.head? = some 45
  · rw [if_pos h] at h1 h2 h3
    refine ⟨t.tail, by simpa using h1, h2, h3, .inl ?_⟩
    cases t with
    | nil => cases h
    | cons c r => simp at h; rw [h]; rfl
  · rw [if_neg h] at h1 h2 h3
    exact ⟨t, by simpa using h1, h2, h3, .inr ⟨rfl, h⟩⟩
theorem int_tok {t : List Nat} (hw : wholeT t = true) : bfn .int [.str ⟨t.toArray⟩] = some (.int (tokV t)) := by
  obtain ⟨b, h1, h2, h3, h | ⟨h, h'⟩⟩ := whole_parts hw
  · have e := PySem.intText_neg (x := ⟨t.toArray⟩) (cs := b) (by simpa using h) (digs h3) h1 (by rw [h]; simp [Str.length]; omega)
    show (if (Str.mk t.toArray).length ≤ 640 then (intText? ⟨t.toArray⟩).map P.int else none) = _
    rw [if_pos (by rw [h]; simp [Str.length]; omega), e]
    unfold tokV
    rw [h]; rfl
  · unfold tokV
    rw [if_neg h', h]
    exact int_digs h3 h1 (by omega)
end K51

set_option Elab.async false
set_option linter.all false
set_option maxRecDepth 100000
set_option autoImplicit false
namespace K51
open MP PySem
theorem loopV_ge {cs : List Nat} {v : Nat → Option (P × Nat)} (hv : ∀ h p e, v h = some (p, e) → h ≤ e) : ∀ (f h : Nat) (acc : List P) (p : P) (e : Nat), loopV cs v f h acc = some (p, e) → h ≤ e
  | 0, _, _, _, _, q => nomatch q
  | f + 1, h, acc, p, e, q => by
    unfold loopV at q
    cases hq : v h with
    | none => rw [hq] at q; cases q
    | some r =>
      obtain ⟨r, e1⟩ := r
      have h1 := hv h r e1 hq
      rw [hq] at q
      dsimp only at q
      by_cases c1 : cs[e1]? = some 93
      · rw [if_pos c1] at q; cases q; omega
      · rw [if_neg c1] at q
        by_cases c2 : cs[e1]? = some 32
        · rw [if_pos c2] at q
          have := loopV_ge hv f _ _ _ _ q
          omega
        · rw [if_neg c2] at q; cases q
theorem val_ge {cs : List Nat} : ∀ {d h : Nat} {p : P} {e : Nat}, val cs d h = some (p, e) → h ≤ e := by
  intro d
  induction d with
  | zero =>
    intro h p e hv
    rw [val_eq] at hv
    cases hc : cs[h]? with
    | none => rw [hc] at hv; cases hv
    | some c =>
      rw [hc] at hv
      dsimp only at hv
      by_cases h1 : isW c = true ∧ isD c = false
      · rw [if_pos h1] at hv; cases hv; exact runTo_ge ..
      · rw [if_neg h1] at hv
        by_cases h2 : c ≠ 91
        · rw [if_pos h2] at hv; have := (num_end hv).1; omega
        · rw [if_neg h2] at hv; cases hv
  | succ d ih =>
    intro h p e hv
    rw [val_eq] at hv
    cases hc : cs[h]? with
    | none => rw [hc] at hv; cases hv
    | some c =>
      rw [hc] at hv
      dsimp only at hv
      by_cases h1 : isW c = true ∧ isD c = false
      · rw [if_pos h1] at hv; cases hv; exact runTo_ge ..
      · rw [if_neg h1] at hv
        by_cases h2 : c ≠ 91
        · rw [if_pos h2] at hv; have := (num_end hv).1; omega
        · rw [if_neg h2] at hv
          by_cases h3 : cs[h + 1]? = some 93
          · rw [if_pos h3] at hv; cases hv; omega
          · rw [if_neg h3] at hv
            have := loopV_ge (fun h p e q => ih q) _ _ _ _ _ hv
            omega
def bT : MSs := (.cons (.set (.g (.name 7)) (.call "_law_taken" (.cons (.var 0) (.cons (.var 6) (.cons (.bin .sub (.var 2) (.lit (.int (1)))) .nil)))))
 (.cons (.ifs (.val (.cmp .is_ (.var 7) (.lit .non)))
 (.cons (.ret (.lit .non))
 .nil)
 .nil)
 (.cons (.set (.g (.name 5)) (.bin .add (.var 5) (.tup (.cons (.idx (.var 7) (.lit (.int (0)))) .nil))))
 (.cons (.set (.g (.name 6)) (.idx (.var 7) (.lit (.int (1)))))
 (.cons (.ifs (.val (.cmp .eq (.slc (.var 0) (.som (.var 6)) (.som (.bin .add (.var 6) (.lit (.int (1)))))) (.lit (.str "]"))))
 (.cons (.ret (.tup (.cons (.var 5) (.cons (.bin .add (.var 6) (.lit (.int (1)))) .nil))))
 .nil)
 .nil)
 (.cons (.ifs (.val (.cmp .ne (.slc (.var 0) (.som (.var 6)) (.som (.bin .add (.var 6) (.lit (.int (1)))))) (.lit (.str " "))))
 (.cons (.ret (.lit .non))
 .nil)
 .nil)
 (.cons (.set (.g (.name 6)) (.bin .add (.var 6) (.lit (.int (1)))))
 .nil)))))))
def retV : Option (P × Nat) → Out
  | none => .ret (.p .non)
  | some (p, e) => .ret (.p (.tup [p, .int e]))
theorem retV_enc (o : Option (P × Nat)) : retV o = .ret (.p (encV o)) := by
  cases o with
  | none => rfl
  | some q => rfl
section
variable {S : MP.Sto} {z : Str} (hz9 : z.length ≤ 99999)
include hz9
theorem loopT {N d : Nat} {D : Int} (ih : ∀ h : Nat, h ≤ z.length → (calls T N).fn "_law_taken" [.p (.str z), .p (.int h), .p (.int (D - 1))] S = .ok (.p (encV (val z.cps.toList d h))) S) (h0 : P) (sg' : P) (e4 : Option W) :
    ∀ (f m h : Nat) (acc : List P) (p7 : Option W), h ≤ z.length → acc.length ≤ h → z.length - h < f → f ≤ m →
      whlF (evT (calls T N) (.val (.lit (.bl true)))) (exss (calls T N) bT) m [some (.p (.str z)), some (.p h0), some (.p (.int D)), some (.p sg'), e4, some (.p (.tup acc)), some (.p (.int (h : Int))), p7] S = some (retV (loopV z.cps.toList (val z.cps.toList d) f h acc), S) := by
  have hl := slen_toList z
  have hz : z.length ≤ 100000 := by omega
  intro f
  induction f with
  | zero => intro m h acc p7 _ _ hf _; omega
  | succ f ihf =>
    intro m h acc p7 hh ha hf hm
    obtain ⟨m, rfl⟩ := Nat.exists_eq_succ_of_ne_zero (n := m) (by omega)
    unfold whlF
    have ht : evT (calls T N) (.val (.lit (.bl true))) [some (.p (.str z)), some (.p h0), some (.p (.int D)), some (.p sg'), e4, some (.p (.tup acc)), some (.p (.int (h : Int))), p7] S = .ok true S := rfl
    rw [ht, lft_ok, if_pos rfl]
    have hcall := ih h hh
    have bs : bop .sub (.int D) (.int 1) = some (.int (D - 1)) := rfl
    unfold loopV
    cases hv : val z.cps.toList d h with
    | none =>
      rw [hv] at hcall
      have hx : exss (calls T N) bT [some (.p (.str z)), some (.p h0), some (.p (.int D)), some (.p sg'), e4, some (.p (.tup acc)), some (.p (.int (h : Int))), p7] S = some (.ret (.p .non), S) := by
        simp [bT, bind_ok, lft_ok, ofO_some, q_var, q_lit, q_glo, q_bin, q_cmp, q_idx, q_bif, q_call, q_nil, q_cons, q_val, q_tand, q_tor, q_tnot, q_ifs, q_set, q_snil, q_scons, q_gn, q_not, q_and', q_tup, q_lst, q_isi, q_ife, q_slc, q_onon, q_osom, q_yes, q_iex, q_ir1, q_att, q_ret, rd, rds, pures, bs, hcall, encV, cop_isn, isNon, truth]
      rw [hx]
      rfl
    | some q =>
      obtain ⟨p, e⟩ := q
      rw [hv] at hcall
      have he := val_end hv
      have hge := val_ge hv
      have ba : bop .add (.tup acc) (.tup [p]) = some (.tup (acc ++ [p])) := if_pos (by rw [List.length_cons, List.length_nil]; exact small (by omega))
      have bi : bop .add (.int (e : Int)) (.int 1) = some (.int ((e : Int) + 1)) := rfl
      have sl := slc_str (z := z) (some (e : Int)) (some ((e : Int) + 1)) hz
      rw [cut_at'] at sl
      have e93 : (at_ z e == ("]" : Str)) = decide (z.cps.toList[e]? = some 93) := at_eq z e 93
      have e32 : (at_ z e == (" " : Str)) = decide (z.cps.toList[e]? = some 32) := at_eq z e 32
      have i0 : pidx (.tup [p, .int (e : Int)]) (.int 0) = some p := rfl
      have i1 : pidx (.tup [p, .int (e : Int)]) (.int 1) = some (.int (e : Int)) := rfl
      by_cases c1 : z.cps.toList[e]? = some 93
      · rw [decide_eq_true c1] at e93
        have hx : exss (calls T N) bT [some (.p (.str z)), some (.p h0), some (.p (.int D)), some (.p sg'), e4, some (.p (.tup acc)), some (.p (.int (h : Int))), p7] S = some (.ret (.p (.tup [.tup (acc ++ [p]), .int ((e : Int) + 1)])), S) := by
          simp [bT, bind_ok, lft_ok, ofO_some, q_var, q_lit, q_glo, q_bin, q_cmp, q_idx, q_bif, q_call, q_nil, q_cons, q_val, q_tand, q_tor, q_tnot, q_ifs, q_set, q_snil, q_scons, q_gn, q_not, q_and', q_tup, q_lst, q_isi, q_ife, q_slc, q_onon, q_osom, q_yes, q_iex, q_ir1, q_att, q_ret, rd, rds, pures, bs, hcall, encV, cop_isn, isNon, truth, i0, i1, cut1, cut2, ba, bi, sl, cop_eqs, e93]
        rw [hx]
        dsimp only
        rw [if_pos c1]
        rfl
      · rw [decide_eq_false c1] at e93
        dsimp only
        rw [if_neg c1]
        by_cases c2 : z.cps.toList[e]? = some 32
        · rw [decide_eq_true c2] at e32
          have hx : exss (calls T N) bT [some (.p (.str z)), some (.p h0), some (.p (.int D)), some (.p sg'), e4, some (.p (.tup acc)), some (.p (.int (h : Int))), p7] S = some (.nx [some (.p (.str z)), some (.p h0), some (.p (.int D)), some (.p sg'), e4, some (.p (.tup (acc ++ [p]))), some (.p (.int ((e + 1 : Nat) : Int))), some (.p (.tup [p, .int (e : Int)]))], S) := by
            simp [bT, bind_ok, lft_ok, ofO_some, q_var, q_lit, q_glo, q_bin, q_cmp, q_idx, q_bif, q_call, q_nil, q_cons, q_val, q_tand, q_tor, q_tnot, q_ifs, q_set, q_snil, q_scons, q_gn, q_not, q_and', q_tup, q_lst, q_isi, q_ife, q_slc, q_onon, q_osom, q_yes, q_iex, q_ir1, q_att, q_ret, rd, rds, pures, bs, hcall, encV, cop_isn, isNon, truth, i0, i1, cut1, cut2, ba, bi, sl, cop_eqs, cop_nes, e93, e32]
          rw [hx, if_pos c2]
          have hlt : e < z.length := by
            have := (List.getElem?_eq_some_iff.mp c2).1
            omega
          exact ihf m (e + 1) (acc ++ [p]) _ (by omega) (by rw [List.length_append, List.length_cons, List.length_nil]; omega) (by omega) (by omega)
        · rw [decide_eq_false c2] at e32
          have hx : exss (calls T N) bT [some (.p (.str z)), some (.p h0), some (.p (.int D)), some (.p sg'), e4, some (.p (.tup acc)), some (.p (.int (h : Int))), p7] S = some (.ret (.p .non), S) := by
            simp [bT, bind_ok, lft_ok, ofO_some, q_var, q_lit, q_glo, q_bin, q_cmp, q_idx, q_bif, q_call, q_nil, q_cons, q_val, q_tand, q_tor, q_tnot, q_ifs, q_set, q_snil, q_scons, q_gn, q_not, q_and', q_tup, q_lst, q_isi, q_ife, q_slc, q_onon, q_osom, q_yes, q_iex, q_ir1, q_att, q_ret, rd, rds, pures, bs, hcall, encV, cop_isn, isNon, truth, i0, i1, cut1, cut2, ba, bi, sl, cop_eqs, cop_nes, e93, e32]
          rw [hx, if_neg c2]
          rfl
end
/-- what is no word and no row -/
theorem taken_num {S : MP.Sto} (hS : trimS S.length S = some S) (n : Nat) {z : Str} (hz : z.length ≤ 100000) {h : Nat} (hh : h ≤ z.length) {D : Int} (h91 : z.cps.toList[h]? ≠ some 91)
    (hw : ∀ c, z.cps.toList[h]? = some c → ¬ (isW c = true ∧ isD c = false)) : exss (calls T (n + 1)) b__law_taken (startL ⟨3, 8, b__law_taken, false⟩ [.p (.str z), .p (.int h), .p (.int D)]) S = some (.ret (.p (encV (num z.cps.toList h))), S) := by
  have hl := slen_toList z
  have sl := slc_str (z := z) (some (h : Int)) (some ((h : Int) + 1)) hz
  rw [cut_at'] at sl
  have e91 : (at_ z h == ("[" : Str)) = decide (z.cps.toList[h]? = some 91) := at_eq z h 91
  rw [decide_eq_false h91] at e91
  have bi : bop .add (.int (h : Int)) (.int 1) = some (.int ((h : Int) + 1)) := rfl
  have ld := loopD n.succ hz (S := S) (h := h) (D := D) (sg' := .str (at_ z h)) (g := h + 1) (by omega)
  rw [show ((h + 1 : Nat) : Int) = (h : Int) + 1 from rfl] at ld
  simp only [tD, b4, L8] at ld
  -- the token
  have tok : L2.cutS z (some (h : Int)) (some (runTo z.cps.toList isD (h + 1) : Int)) = ⟨(cutC z.cps.toList h (runTo z.cps.toList isD (h + 1))).toArray⟩ := by
    have hg := runTo_ge z.cps.toList isD (h + 1)
    rcases Nat.lt_or_ge h z.length with q | q
    · exact cut_he z (by omega) (by have := runTo_le z.cps.toList isD (h := h + 1) (by omega); omega)
    · exact cut_past z q
  have st := slc_str (z := z) (some (h : Int)) (some (runTo z.cps.toList isD (h + 1) : Int)) hz
  rw [tok] at st
  have tl : (Str.mk (cutC z.cps.toList h (runTo z.cps.toList isD (h + 1))).toArray).length ≤ 100000 := by
    rw [← tok]; exact Nat.le_trans (L2.cutS_length z _ _) hz
  have wt := whole_text hS n tl
  have cond : ∀ L : MP.Loc, L[3]? = some (some (.p (.str (at_ z h)))) → evT (calls T (n + 1)) (.and (.val (.call "_law_word_sign" (.cons (.var 3) .nil))) (.val (.cmp .notin (.var 3) (.lit (.str "0123456789"))))) L S = .ok false S := fun L hL => by
    cases hc : z.cps.toList[h]? with
    | none =>
      rw [at_none hc] at hL
      have := word_sign0 hS n
      simp [bind_ok, lft_ok, ofO_some, q_var, q_lit, q_glo, q_bin, q_cmp, q_idx, q_bif, q_call, q_nil, q_cons, q_val, q_tand, q_tor, q_tnot, q_ifs, q_set, q_snil, q_scons, q_gn, q_not, q_and', q_tup, q_lst, q_isi, q_ife, q_slc, q_onon, q_osom, q_yes, q_iex, q_ir1, q_att, q_ret, rd, rds, pures, hL, this, truth]
    | some c =>
      rw [at_some hc] at hL
      have ws := word_sign hS n c
      have e : decide (c ∈ wordC.cps.toList) = isW c := rfl
      rw [e] at ws
      have e2 : cop .notin (.str (sg c)) (.str ("0123456789" : Str)) = some (!isD c) := notin_sg c _
      have := hw c hc
      cases h1 : isW c with
      | false => rw [h1] at ws; simp [bind_ok, lft_ok, ofO_some, q_var, q_lit, q_glo, q_bin, q_cmp, q_idx, q_bif, q_call, q_nil, q_cons, q_val, q_tand, q_tor, q_tnot, q_ifs, q_set, q_snil, q_scons, q_gn, q_not, q_and', q_tup, q_lst, q_isi, q_ife, q_slc, q_onon, q_osom, q_yes, q_iex, q_ir1, q_att, q_ret, rd, rds, pures, hL, ws, truth]
      | true =>
        rw [h1] at ws
        have h2 : isD c = true := by simpa [h1] using this
        rw [h2] at e2
        simp [bind_ok, lft_ok, ofO_some, q_var, q_lit, q_glo, q_bin, q_cmp, q_idx, q_bif, q_call, q_nil, q_cons, q_val, q_tand, q_tor, q_tnot, q_ifs, q_set, q_snil, q_scons, q_gn, q_not, q_and', q_tup, q_lst, q_isi, q_ife, q_slc, q_onon, q_osom, q_yes, q_iex, q_ir1, q_att, q_ret, rd, rds, pures, hL, ws, e2, truth]
  have h2 : ∀ L : MP.Loc, L = [some (.p (.str z)), some (.p (.int (h : Int))), some (.p (.int D)), some (.p (.str (at_ z h))), none, none, none, none] → evT (calls T (n + 1)) (.val (.cmp .ne (.var 3) (.lit (.str "[")))) L S = .ok true S := fun L hL => by
    subst hL
    simp [bind_ok, lft_ok, ofO_some, q_var, q_lit, q_glo, q_bin, q_cmp, q_idx, q_bif, q_call, q_nil, q_cons, q_val, q_tand, q_tor, q_tnot, q_ifs, q_set, q_snil, q_scons, q_gn, q_not, q_and', q_tup, q_lst, q_isi, q_ife, q_slc, q_onon, q_osom, q_yes, q_iex, q_ir1, q_att, q_ret, rd, rds, pures, cop_nes, e91, truth]
  have hL : startL ⟨3, 8, b__law_taken, false⟩ [.p (.str z), .p (.int h), .p (.int D)] = [some (.p (.str z)), some (.p (.int (h : Int))), some (.p (.int D)), none, none, none, none, none] := rfl
  rw [hL]
  unfold b__law_taken
  rw [x_nx (L' := [some (.p (.str z)), some (.p (.int (h : Int))), some (.p (.int D)), some (.p (.str (at_ z h))), none, none, none, none]) (S' := S) (by simp [bind_ok, lft_ok, ofO_some, q_var, q_lit, q_glo, q_bin, q_cmp, q_idx, q_bif, q_call, q_nil, q_cons, q_val, q_tand, q_tor, q_tnot, q_ifs, q_set, q_snil, q_scons, q_gn, q_not, q_and', q_tup, q_lst, q_isi, q_ife, q_slc, q_onon, q_osom, q_yes, q_iex, q_ir1, q_att, q_ret, rd, rds, pures, bi, sl]),
    x_nx (x_ifnx (cond _ rfl)), q_scons, x_ift (h2 _ rfl),
    x_nx (L' := [some (.p (.str z)), some (.p (.int (h : Int))), some (.p (.int D)), some (.p (.str (at_ z h))), some (.p (.int ((h : Int) + 1))), none, none, none]) (S' := S) (by simp [bind_ok, lft_ok, ofO_some, q_var, q_lit, q_glo, q_bin, q_cmp, q_idx, q_bif, q_call, q_nil, q_cons, q_val, q_tand, q_tor, q_tnot, q_ifs, q_set, q_snil, q_scons, q_gn, q_not, q_and', q_tup, q_lst, q_isi, q_ife, q_slc, q_onon, q_osom, q_yes, q_iex, q_ir1, q_att, q_ret, rd, rds, pures, bi]),
    x_nx ((q_whl _ _ _ _ _).trans ld)]
  by_cases hwh : wholeT (cutC z.cps.toList h (runTo z.cps.toList isD (h + 1))) = true
  · have en : num z.cps.toList h = some (.int (tokV (cutC z.cps.toList h (runTo z.cps.toList isD (h + 1)))), runTo z.cps.toList isD (h + 1)) := if_pos hwh
    have it := int_tok hwh
    rw [hwh] at wt
    rw [en]
    simp [bind_ok, lft_ok, ofO_some, q_var, q_lit, q_glo, q_bin, q_cmp, q_idx, q_bif, q_call, q_nil, q_cons, q_val, q_tand, q_tor, q_tnot, q_ifs, q_set, q_snil, q_scons, q_gn, q_not, q_and', q_tup, q_lst, q_isi, q_ife, q_slc, q_onon, q_osom, q_yes, q_iex, q_ir1, q_att, q_ret, rd, rds, pures, st, wt, it, cut2, encV, truth]
  · have en : num z.cps.toList h = none := if_neg hwh
    have hwh' : wholeT (cutC z.cps.toList h (runTo z.cps.toList isD (h + 1))) = false := by simpa using hwh
    rw [hwh'] at wt
    rw [en]
    simp [bind_ok, lft_ok, ofO_some, q_var, q_lit, q_glo, q_bin, q_cmp, q_idx, q_bif, q_call, q_nil, q_cons, q_val, q_tand, q_tor, q_tnot, q_ifs, q_set, q_snil, q_scons, q_gn, q_not, q_and', q_tup, q_lst, q_isi, q_ife, q_slc, q_onon, q_osom, q_yes, q_iex, q_ir1, q_att, q_ret, rd, rds, pures, st, wt, cut2, encV, truth]
end K51

set_option Elab.async false
set_option linter.all false
set_option maxRecDepth 100000
set_option autoImplicit false
namespace K51
open MP PySem
theorem num_none {cs : List Nat} {h : Nat} (hc : cs[h]? = none) : num cs h = none := by
  have e : cutC cs h (runTo cs isD (h + 1)) = [] := by
    unfold cutC
    rw [List.drop_eq_nil_of_le (List.getElem?_eq_none_iff.mp hc), List.take_nil]
  unfold num
  rw [e]
  exact if_neg (by decide)
theorem takenB {S : MP.Sto} (hS : trimS S.length S = some S) (n : Nat) {z : Str} (hz9 : z.length ≤ 99999) {d : Nat} {D : Int} {h : Nat} (hD : D = d) (hh : h ≤ z.length)
    (ih : ∀ {d' : Nat}, d = d' + 1 → ∀ h : Nat, h ≤ z.length → (calls T (n + 1)).fn "_law_taken" [.p (.str z), .p (.int h), .p (.int (D - 1))] S = .ok (.p (encV (val z.cps.toList d' h))) S) :
    exss (calls T (n + 1)) b__law_taken (startL ⟨3, 8, b__law_taken, false⟩ [.p (.str z), .p (.int h), .p (.int D)]) S = some (.ret (.p (encV (val z.cps.toList d h))), S) := by
  have hz : z.length ≤ 100000 := by omega
  have hl := slen_toList z
  rw [val_eq]
  cases hc : z.cps.toList[h]? with
  | none =>
    dsimp only
    rw [← num_none hc]
    exact taken_num hS n hz hh (by rw [hc]; simp) (fun c e => by rw [hc] at e; cases e)
  | some c =>
    have hlt : h < z.length := by have := (List.getElem?_eq_some_iff.mp hc).1; omega
    dsimp only
    have sl := slc_str (z := z) (some (h : Int)) (some ((h : Int) + 1)) hz
    rw [cut_at', at_some hc] at sl
    have bi : bop .add (.int (h : Int)) (.int 1) = some (.int ((h : Int) + 1)) := rfl
    have ws := word_sign hS n c
    have e : decide (c ∈ wordC.cps.toList) = isW c := rfl
    rw [e] at ws
    have e2 : cop .notin (.str (sg c)) (.str ("0123456789" : Str)) = some (!isD c) := notin_sg c _
    have hL : startL ⟨3, 8, b__law_taken, false⟩ [.p (.str z), .p (.int h), .p (.int D)] = [some (.p (.str z)), some (.p (.int (h : Int))), some (.p (.int D)), none, none, none, none, none] := rfl
    by_cases h1 : isW c = true ∧ isD c = false
    · rw [if_pos h1]
      rw [h1.1] at ws
      rw [h1.2] at e2
      have lw := loopW hS n hz (h := h) (D := D) (sg' := .str (sg c)) hh
      simp only [tW, b4, L8] at lw
      have hr := runTo_le z.cps.toList isW (h := h) (by omega)
      have hg := runTo_ge z.cps.toList isW h
      have st := slc_str (z := z) (some (h : Int)) (some (runTo z.cps.toList isW h : Int)) hz
      rw [cut_he z hg (by omega)] at st
      rw [hL]
      unfold b__law_taken
      rw [x_nx (L' := [some (.p (.str z)), some (.p (.int (h : Int))), some (.p (.int D)), some (.p (.str (sg c))), none, none, none, none]) (S' := S) (by simp [bind_ok, lft_ok, ofO_some, q_var, q_lit, q_glo, q_bin, q_cmp, q_idx, q_bif, q_call, q_nil, q_cons, q_val, q_tand, q_tor, q_tnot, q_ifs, q_set, q_snil, q_scons, q_gn, q_not, q_and', q_tup, q_lst, q_isi, q_ife, q_slc, q_onon, q_osom, q_yes, q_iex, q_ir1, q_att, q_ret, rd, rds, pures, bi, sl]),
        q_scons, x_ift (S' := S) (by simp [bind_ok, lft_ok, ofO_some, q_var, q_lit, q_glo, q_bin, q_cmp, q_idx, q_bif, q_call, q_nil, q_cons, q_val, q_tand, q_tor, q_tnot, q_ifs, q_set, q_snil, q_scons, q_gn, q_not, q_and', q_tup, q_lst, q_isi, q_ife, q_slc, q_onon, q_osom, q_yes, q_iex, q_ir1, q_att, q_ret, rd, rds, pures, ws, e2, truth]),
        x_nx (L' := [some (.p (.str z)), some (.p (.int (h : Int))), some (.p (.int D)), some (.p (.str (sg c))), some (.p (.int (h : Int))), none, none, none]) (S' := S) (by simp [bind_ok, lft_ok, ofO_some, q_var, q_lit, q_glo, q_bin, q_cmp, q_idx, q_bif, q_call, q_nil, q_cons, q_val, q_tand, q_tor, q_tnot, q_ifs, q_set, q_snil, q_scons, q_gn, q_not, q_and', q_tup, q_lst, q_isi, q_ife, q_slc, q_onon, q_osom, q_yes, q_iex, q_ir1, q_att, q_ret, rd, rds, pures]),
        x_nx ((q_whl _ _ _ _ _).trans lw)]
      simp [bind_ok, lft_ok, ofO_some, q_var, q_lit, q_glo, q_bin, q_cmp, q_idx, q_bif, q_call, q_nil, q_cons, q_val, q_tand, q_tor, q_tnot, q_ifs, q_set, q_snil, q_scons, q_gn, q_not, q_and', q_tup, q_lst, q_isi, q_ife, q_slc, q_onon, q_osom, q_yes, q_iex, q_ir1, q_att, q_ret, rd, rds, pures, st, cut2, encV]
    · rw [if_neg h1]
      by_cases h2 : c ≠ 91
      · rw [if_pos h2]
        exact taken_num hS n hz hh (by rw [hc]; simpa using h2) (fun c' e => by rw [hc] at e; cases e; exact h1)
      · have h2 : c = 91 := by omega
        subst h2
        rw [if_neg (by omega)]
        have hw0 : isW 91 = false := by decide +kernel
        rw [hw0] at ws
        have n91 : (sg 91 == ("[" : Str)) = true := rfl
        rw [hL]
        unfold b__law_taken
        rw [x_nx (L' := [some (.p (.str z)), some (.p (.int (h : Int))), some (.p (.int D)), some (.p (.str (sg 91))), none, none, none, none]) (S' := S) (by simp [bind_ok, lft_ok, ofO_some, q_var, q_lit, q_glo, q_bin, q_cmp, q_idx, q_bif, q_call, q_nil, q_cons, q_val, q_tand, q_tor, q_tnot, q_ifs, q_set, q_snil, q_scons, q_gn, q_not, q_and', q_tup, q_lst, q_isi, q_ife, q_slc, q_onon, q_osom, q_yes, q_iex, q_ir1, q_att, q_ret, rd, rds, pures, bi, sl]),
          x_nx (x_ifnx (S' := S) (by simp [bind_ok, lft_ok, ofO_some, q_var, q_lit, q_glo, q_bin, q_cmp, q_idx, q_bif, q_call, q_nil, q_cons, q_val, q_tand, q_tor, q_tnot, q_ifs, q_set, q_snil, q_scons, q_gn, q_not, q_and', q_tup, q_lst, q_isi, q_ife, q_slc, q_onon, q_osom, q_yes, q_iex, q_ir1, q_att, q_ret, rd, rds, pures, ws, truth])), x_nx (x_ifnx (S' := S) (by simp [bind_ok, lft_ok, ofO_some, q_var, q_lit, q_glo, q_bin, q_cmp, q_idx, q_bif, q_call, q_nil, q_cons, q_val, q_tand, q_tor, q_tnot, q_ifs, q_set, q_snil, q_scons, q_gn, q_not, q_and', q_tup, q_lst, q_isi, q_ife, q_slc, q_onon, q_osom, q_yes, q_iex, q_ir1, q_att, q_ret, rd, rds, pures, cop_nes, n91, truth]))]
        cases d with
        | zero =>
          have hD : D = 0 := hD
          subst hD
          simp [bind_ok, lft_ok, ofO_some, q_var, q_lit, q_glo, q_bin, q_cmp, q_idx, q_bif, q_call, q_nil, q_cons, q_val, q_tand, q_tor, q_tnot, q_ifs, q_set, q_snil, q_scons, q_gn, q_not, q_and', q_tup, q_lst, q_isi, q_ife, q_slc, q_onon, q_osom, q_yes, q_iex, q_ir1, q_att, q_ret, rd, rds, pures, cop_eqi, truth, encV]
        | succ d =>
          have hD0 : ¬ D = 0 := by omega
          dsimp only
          have bi2 : bop .add (.int (h : Int)) (.int 2) = some (.int ((h : Int) + 2)) := rfl
          have sl2 := slc_str (z := z) (some ((h : Int) + 1)) (some ((h : Int) + 2)) hz
          have ec : L2.cutS z (some ((h : Int) + 1)) (some ((h : Int) + 2)) = at_ z (h + 1) := by
            have := cut_at z (h + 1)
            rw [show ((h + 1 + 1 : Nat) : Int) = (h : Int) + 2 from by omega] at this
            exact this
          rw [ec] at sl2
          have e93 : (at_ z (h + 1) == ("]" : Str)) = decide (z.cps.toList[h + 1]? = some 93) := at_eq z (h + 1) 93
          rw [x_nx (x_ifnx (S' := S) (by simp [bind_ok, lft_ok, ofO_some, q_var, q_lit, q_glo, q_bin, q_cmp, q_idx, q_bif, q_call, q_nil, q_cons, q_val, q_tand, q_tor, q_tnot, q_ifs, q_set, q_snil, q_scons, q_gn, q_not, q_and', q_tup, q_lst, q_isi, q_ife, q_slc, q_onon, q_osom, q_yes, q_iex, q_ir1, q_att, q_ret, rd, rds, pures, cop_eqi, hD0, truth]))]
          have c0 : cut sizeLine ([] : List P) = some [] := if_pos (small (by simp))
          by_cases h3 : z.cps.toList[h + 1]? = some 93
          · rw [if_pos h3]
            rw [decide_eq_true h3] at e93
            rw [q_scons, x_ift (S' := S) (by simp [bind_ok, lft_ok, ofO_some, q_var, q_lit, q_glo, q_bin, q_cmp, q_idx, q_bif, q_call, q_nil, q_cons, q_val, q_tand, q_tor, q_tnot, q_ifs, q_set, q_snil, q_scons, q_gn, q_not, q_and', q_tup, q_lst, q_isi, q_ife, q_slc, q_onon, q_osom, q_yes, q_iex, q_ir1, q_att, q_ret, rd, rds, pures, bi, bi2, sl2, cop_eqs, e93, truth])]
            simp [bind_ok, lft_ok, ofO_some, q_var, q_lit, q_glo, q_bin, q_cmp, q_idx, q_bif, q_call, q_nil, q_cons, q_val, q_tand, q_tor, q_tnot, q_ifs, q_set, q_snil, q_scons, q_gn, q_not, q_and', q_tup, q_lst, q_isi, q_ife, q_slc, q_onon, q_osom, q_yes, q_iex, q_ir1, q_att, q_ret, rd, rds, pures, c0, bi2, cut2, encV]
          · rw [if_neg h3]
            rw [decide_eq_false h3] at e93
            rw [x_nx (x_ifnx (S' := S) (by simp [bind_ok, lft_ok, ofO_some, q_var, q_lit, q_glo, q_bin, q_cmp, q_idx, q_bif, q_call, q_nil, q_cons, q_val, q_tand, q_tor, q_tnot, q_ifs, q_set, q_snil, q_scons, q_gn, q_not, q_and', q_tup, q_lst, q_isi, q_ife, q_slc, q_onon, q_osom, q_yes, q_iex, q_ir1, q_att, q_ret, rd, rds, pures, bi, bi2, sl2, cop_eqs, e93, truth])),
              x_nx (L' := [some (.p (.str z)), some (.p (.int (h : Int))), some (.p (.int D)), some (.p (.str (sg 91))), none, some (.p (.tup [])), none, none]) (S' := S) (by simp [bind_ok, lft_ok, ofO_some, q_var, q_lit, q_glo, q_bin, q_cmp, q_idx, q_bif, q_call, q_nil, q_cons, q_val, q_tand, q_tor, q_tnot, q_ifs, q_set, q_snil, q_scons, q_gn, q_not, q_and', q_tup, q_lst, q_isi, q_ife, q_slc, q_onon, q_osom, q_yes, q_iex, q_ir1, q_att, q_ret, rd, rds, pures, c0]),
              x_nx (L' := [some (.p (.str z)), some (.p (.int (h : Int))), some (.p (.int D)), some (.p (.str (sg 91))), none, some (.p (.tup [])), some (.p (.int ((h + 1 : Nat) : Int))), none]) (S' := S) (by simp [bind_ok, lft_ok, ofO_some, q_var, q_lit, q_glo, q_bin, q_cmp, q_idx, q_bif, q_call, q_nil, q_cons, q_val, q_tand, q_tor, q_tnot, q_ifs, q_set, q_snil, q_scons, q_gn, q_not, q_and', q_tup, q_lst, q_isi, q_ife, q_slc, q_onon, q_osom, q_yes, q_iex, q_ir1, q_att, q_ret, rd, rds, pures, bi])]
            have lt := loopT (S := S) (z := z) hz9 (N := n + 1) (d := d) (D := D) (fun h hh => ih rfl h hh) (.int (h : Int)) (.str (sg 91)) none (z.cps.toList.length + 1) fuel (h + 1) [] none (by omega) (by simp) (by omega) (Nat.le_of_lt (fuel_gt (by omega)))
            rw [retV_enc] at lt
            exact x_ret ((q_whl _ _ _ _ _).trans lt)
theorem taken {S : MP.Sto} (hS : trimS S.length S = some S) (n : Nat) {z : Str} (hz9 : z.length ≤ 99999) : ∀ (d : Nat) (D : Int) (h : Nat), D = d → h ≤ z.length →
    (calls T (n + 2 + d)).fn "_law_taken" [.p (.str z), .p (.int h), .p (.int D)] S = .ok (.p (encV (val z.cps.toList d h))) S := by
  have hz : z.length ≤ 100000 := by omega
  have hl := slen_toList z
  intro d
  induction d with
  | zero =>
    intro D h hD hh
    rw [fn_run (n := n + 1) lk_taken, mb_taken]
    refine (run_ret rfl (?_ : exss (calls T (n + 1)) b__law_taken _ S = some (.ret (.p (encV (val z.cps.toList 0 h))), S)) hS).trans rfl
    exact takenB hS n hz9 (d := 0) (D := D) hD hh (fun e => nomatch e)
  | succ d ih =>
    intro D h hD hh
    rw [show n + 2 + (d + 1) = n + 2 + d + 1 from by omega, fn_run (n := n + 2 + d) lk_taken, mb_taken]
    refine (run_ret rfl (?_ : exss (calls T (n + 2 + d)) b__law_taken _ S = some (.ret (.p (encV (val z.cps.toList (d + 1) h))), S)) hS).trans rfl
    have := takenB hS (n + 1 + d) hz9 (d := d + 1) (D := D) (h := h) hD hh (fun e h hh => by
      cases e
      rw [show n + 1 + d + 1 = n + 2 + d from by omega]
      exact ih (D - 1) h (by omega) hh)
    rw [show n + 1 + d + 1 = n + 2 + d from by omega] at this
    exact this
end K51

set_option Elab.async false
set_option linter.all false
set_option maxRecDepth 100000
set_option autoImplicit false
namespace K51
open MP PySem
/-! the program's number -/
def numP (cs : List Nat) (h : Nat) : Option (P × Nat) :=
  let h1 := if cs[h]? = some 45 then h + 1 else h
  let b := cutC cs h1 (runTo cs isD h1)
  if b.length = 0 ∨ 6 < b.length ∨ (b.head? = some 48 ∧ (1 < b.length ∨ cs[h]? = some 45)) then none
  else some (.int (if cs[h]? = some 45 then -((PySem.NumText.digitsVal b : Nat) : Int) else (PySem.NumText.digitsVal b : Nat)), runTo cs isD h1)
theorem cutC_run (cs : List Nat) (p : Nat → Bool) (h : Nat) : cutC cs h (runTo cs p h) = (cs.drop h).takeWhile p := by
  unfold cutC runTo
  rw [Nat.add_sub_cancel_left]
  exact List.prefix_iff_eq_take.mp (List.takeWhile_prefix p) |>.symm
theorem all_tw {p : Nat → Bool} (l : List Nat) : (l.takeWhile p).all p = true := List.all_eq_true.mpr fun c m => tw_mem l c m
theorem cutC_cons {cs : List Nat} {h c e : Nat} (hc : cs[h]? = some c) (he : h < e) : cutC cs h e = c :: cutC cs (h + 1) e := by
  obtain ⟨hl, q⟩ := List.getElem?_eq_some_iff.mp hc
  unfold cutC
  rw [List.drop_eq_getElem_cons hl, q, show e - h = (e - (h + 1)) + 1 from by omega, List.take_succ_cons]
theorem numP_eq (cs : List Nat) (h : Nat) : numP cs h = num cs h := by
  cases hc : cs[h]? with
  | none =>
    rw [num_none hc]
    unfold numP
    rw [hc]
    dsimp only
    rw [if_neg (show ¬ (none : Option Nat) = some 45 by simp)]
    refine if_pos (Or.inl ?_)
    rw [cutC_run, List.drop_eq_nil_of_le (List.getElem?_eq_none_iff.mp hc)]
    rfl
  | some c =>
    have hg := runTo_ge cs isD (h + 1)
    by_cases h45 : c = 45
    · subst h45
      have e1 : cutC cs h (runTo cs isD (h + 1)) = 45 :: cutC cs (h + 1) (runTo cs isD (h + 1)) := cutC_cons hc (by omega)
      have ha : (cutC cs (h + 1) (runTo cs isD (h + 1))).all isD = true := by rw [cutC_run]; exact all_tw _
      unfold numP num
      rw [hc, e1]
      dsimp only
      rw [if_pos rfl, if_pos rfl]
      generalize cutC cs (h + 1) (runTo cs isD (h + 1)) = b at ha
      have hw : wholeT (45 :: b) = (!b.isEmpty && decide (b.length ≤ 6) && b.all isD && (decide (b.head? ≠ some 48) || decide ((45 : Nat) :: b = [48]))) := rfl
      by_cases hq : b.length = 0 ∨ 6 < b.length ∨ (b.head? = some 48 ∧ (1 < b.length ∨ some 45 = some 45))
      · rw [if_pos hq, if_neg]
        rw [hw]
        rcases hq with q | q | q
        · rw [List.length_eq_zero_iff.mp q]; simp
        · have : ¬ b.length ≤ 6 := by omega
          simp [this]
        · simp [q.1]
      · rw [if_neg hq, if_pos]
        · rfl
        · rw [hw, ha]
          have h1 : ¬ b.length = 0 := fun q => hq (.inl q)
          have h2 : b.length ≤ 6 := by
            refine Classical.byContradiction fun q => hq (.inr (.inl (by omega)))
          have h3 : b.head? ≠ some 48 := fun q => hq (.inr (.inr ⟨q, .inr rfl⟩))
          have h4 : b.isEmpty = false := by cases b with | nil => exact absurd rfl h1 | cons _ _ => rfl
          simp [h2, h3, h4]
    · have hn : ¬ (some c = some 45) := by simpa using h45
      unfold numP num
      rw [hc]
      dsimp only
      rw [if_neg hn]
      by_cases hd : isD c = true
      · rw [← runTo_step cs isD hc hd]
        have ha : (cutC cs h (runTo cs isD h)).all isD = true := by rw [cutC_run]; exact all_tw _
        have hh : (cutC cs h (runTo cs isD h)).head? = some c := by
          have : h < runTo cs isD h := by rw [runTo_step cs isD hc hd]; omega
          rw [cutC_cons hc this]; rfl
        generalize cutC cs h (runTo cs isD h) = b at ha hh
        have h45' : ¬ b.head? = some 45 := by rw [hh]; exact hn
        have hw : wholeT b = (!b.isEmpty && decide (b.length ≤ 6) && b.all isD && (decide (b.head? ≠ some 48) || decide (b = [48]))) := by
          unfold wholeT
          rw [if_neg h45']
        have tv : tokV b = (PySem.NumText.digitsVal b : Nat) := if_neg h45'
        by_cases hq : b.length = 0 ∨ 6 < b.length ∨ (b.head? = some 48 ∧ (1 < b.length ∨ some c = some 45))
        · rw [if_pos hq, if_neg]
          rw [hw]
          rcases hq with q | q | ⟨q, q2 | q2⟩
          · rw [List.length_eq_zero_iff.mp q]; simp
          · have : ¬ b.length ≤ 6 := by omega
            simp [this]
          · have : ¬ b = [48] := fun e => by rw [e] at q2; simp at q2
            simp [q, this]
          · exact absurd q2 hn
        · rw [if_neg hq, if_neg hn, if_pos, tv]
          rw [hw, ha]
          have h1 : ¬ b.length = 0 := fun q => hq (.inl q)
          have h2 : b.length ≤ 6 := by
            refine Classical.byContradiction fun q => hq (.inr (.inl (by omega)))
          have h4 : b.isEmpty = false := by cases b with | nil => exact absurd rfl h1 | cons _ _ => rfl
          by_cases h3 : b.head? = some 48
          · have h5 : ¬ 1 < b.length := fun q => hq (.inr (.inr ⟨h3, .inl q⟩))
            have h6 : b = [48] := by
              match b, h1, h5, h3 with
              | [x], _, _, h3 => simp at h3; rw [h3]
              | x :: y :: r, _, h5, _ => simp at h5
            simp [h6]
          · simp [h2, h3, h4]
      · have hd' : isD c = false := by simpa using hd
        have e0 : runTo cs isD h = h := runTo_stop cs isD (.inr ⟨c, hc, hd'⟩)
        rw [if_pos (.inl (by rw [e0]; unfold cutC; simp)), if_neg]
        rw [cutC_cons hc (by omega)]
        unfold wholeT
        have hn' : ¬ ((c :: cutC cs (h + 1) (runTo cs isD (h + 1))).head? = some 45) := by simpa using h45
        rw [if_neg hn']
        simp [hd']
end K51

set_option Elab.async false
set_option linter.all false
set_option maxRecDepth 100000
set_option autoImplicit false
namespace K51
open MP PySem
/-! the reader as it stands in the store: behind the first object (a list), lists behind it -/
def rdr (z : Str) (h : Nat) : Ob := .ins "ValueReader" [("text", .p (.str z)), ("at", .p (.int (h : Int)))]
def Sx (q : List P) (z : Str) (h : Nat) (R : List (List P)) : MP.Sto := .lst q :: rdr z h :: R.map Ob.lst
section
variable {q : List P} {z : Str} {h h' : Nat} {R : List (List P)}
theorem sx_len : (Sx q z h R).length = R.length + 2 := by simp [Sx]
theorem lists_closed (k : Nat) : ∀ R : List (List P), (R.map Ob.lst).all (closedO k) = true
  | [] => rfl
  | _ :: R => by rw [List.map_cons, List.all_cons, lists_closed k R]; rfl
theorem sx_trim (R2 : List (List P)) : trimS (Sx q z h R).length (Sx q z h' (R ++ R2)) = some (Sx q z h' R) := by
  have e : (Sx q z h' (R ++ R2)).take (Sx q z h R).length = Sx q z h' R := by
    rw [sx_len]
    show Ob.lst q :: rdr z h' :: ((R ++ R2).map Ob.lst).take R.length = _
    rw [List.map_append, List.take_left' (by simp)]
    rfl
  unfold trimS
  rw [e]
  refine if_pos ?_
  show (closedO _ (.lst q) && (closedO _ (rdr z h') && (R.map Ob.lst).all (closedO _))) = true
  rw [lists_closed]
  rfl
theorem sx_trim0 : trimS (Sx q z h R).length (Sx q z h' R) = some (Sx q z h' R) := by
  have := sx_trim (q := q) (z := z) (h := h) (h' := h') (R := R) []
  rwa [List.append_nil] at this
theorem sx_text : attOf (Sx q z h R) "text" (.ref 1) = some (.p (.str z)) := rfl
theorem sx_at : attOf (Sx q z h R) "at" (.ref 1) = some (.p (.int (h : Int))) := rfl
theorem sx_put : putF (Sx q z h R) "at" (.p (.int (h' : Int))) (.ref 1) = some (Sx q z h' R) := rfl
theorem sx_cls : clsAt (Sx q z h R) (.ref 1) = some ("ValueReader" : Str) := rfl
theorem cls_ns : clsOf (Sx q z h R) "next_sign" (.ref 1) = some ("ValueReader" : Str) := rfl
theorem cls_ro : clsOf (Sx q z h R) "run_of" (.ref 1) = some ("ValueReader" : Str) := rfl
theorem cls_nu : clsOf (Sx q z h R) "number" (.ref 1) = some ("ValueReader" : Str) := rfl
theorem cls_pa : clsOf (Sx q z h R) "parts" (.ref 1) = some ("ValueReader" : Str) := rfl
theorem cls_va : clsOf (Sx q z h R) "value" (.ref 1) = some ("ValueReader" : Str) := rfl
theorem has_ns (n : Nat) : (calls T n).hasM "ValueReader" "next_sign" = true := by cases n <;> kernel_rfl
theorem has_ro (n : Nat) : (calls T n).hasM "ValueReader" "run_of" = true := by cases n <;> kernel_rfl
theorem has_nu (n : Nat) : (calls T n).hasM "ValueReader" "number" = true := by cases n <;> kernel_rfl
theorem has_pa (n : Nat) : (calls T n).hasM "ValueReader" "parts" = true := by cases n <;> kernel_rfl
theorem has_va (n : Nat) : (calls T n).hasM "ValueReader" "value" = true := by cases n <;> kernel_rfl
theorem mb_ns : m_ValueReader__next_sign = ⟨1, 1, b_ValueReader__next_sign, false⟩ := by kernel_rfl
theorem lk_ns : mets.lookup (("ValueReader" : Str), ("next_sign" : Str)) = some m_ValueReader__next_sign := by kernel_rfl
theorem mb_ro : m_ValueReader__run_of = ⟨2, 3, b_ValueReader__run_of, false⟩ := by kernel_rfl
theorem lk_ro : mets.lookup (("ValueReader" : Str), ("run_of" : Str)) = some m_ValueReader__run_of := by kernel_rfl
theorem mb_nu : m_ValueReader__number = ⟨1, 3, b_ValueReader__number, false⟩ := by kernel_rfl
theorem lk_nu : mets.lookup (("ValueReader" : Str), ("number" : Str)) = some m_ValueReader__number := by kernel_rfl
theorem mb_pa : m_ValueReader__parts = ⟨2, 3, b_ValueReader__parts, false⟩ := by kernel_rfl
theorem lk_pa : mets.lookup (("ValueReader" : Str), ("parts" : Str)) = some m_ValueReader__parts := by kernel_rfl
theorem mb_va : m_ValueReader__value = ⟨2, 3, b_ValueReader__value, false⟩ := by kernel_rfl
theorem lk_va : mets.lookup (("ValueReader" : Str), ("value" : Str)) = some m_ValueReader__value := by kernel_rfl
theorem next_sign (n : Nat) (hz : z.length ≤ 100000) : (calls T (n + 1)).met "ValueReader" "next_sign" [.ref 1] (Sx q z h R) = .ok (.p (.str (at_ z h))) (Sx q z h R) := by
  rw [met_run lk_ns, mb_ns]
  have sl := slc_str (z := z) (some (h : Int)) (some ((h : Int) + 1)) hz
  rw [cut_at'] at sl
  have bi : bop .add (.int (h : Int)) (.int 1) = some (.int ((h : Int) + 1)) := rfl
  have ex : exss (calls T n) b_ValueReader__next_sign (startL ⟨1, 1, b_ValueReader__next_sign, false⟩ [.ref 1]) (Sx q z h R) = some (.ret (.p (.str (at_ z h))), Sx q z h R) := by
    simp [b_ValueReader__next_sign, startL, bind_ok, lft_ok, ofO_some, q_var, q_lit, q_glo, q_bin, q_cmp, q_idx, q_bif, q_call, q_nil, q_cons, q_val, q_tand, q_tor, q_tnot, q_ifs, q_set, q_snil, q_scons, q_gn, q_not, q_and', q_tup, q_lst, q_isi, q_ife, q_slc, q_onon, q_osom, q_yes, q_iex, q_ir1, q_att, q_ret, rd, rds, pures, sx_text, sx_at, bi, sl]
  exact (run_ret rfl ex sx_trim0).trans rfl
theorem run_of (n : Nat) (hz : z.length ≤ 100000) (hh : h ≤ z.length) {w : Str} {p : Nat → Bool} (hp : ∀ c, decide (c ∈ w.cps.toList) = p c) : (calls T (n + 2)).met "ValueReader" "run_of" [.ref 1, .p (.str w)] (Sx q z h R) = .ok (.p (.str ⟨(cutC z.cps.toList h (runTo z.cps.toList p h)).toArray⟩)) (Sx q z (runTo z.cps.toList p h) R) := by
  rw [met_run (n := n + 1) lk_ro, mb_ro]
  have hl := slen_toList z
  have hr := runTo_le z.cps.toList p (h := h) (by omega)
  have hg := runTo_ge z.cps.toList p h
  have st := slc_str (z := z) (some (h : Int)) (some (runTo z.cps.toList p h : Int)) hz
  rw [cut_he z hg (by omega)] at st
  have lp := whl_run (t := evT (calls T (n + 1)) (.and (.val (.cmp .ne (.mth (.var 0) "next_sign" .nil) (.lit (.str "")))) (.val (.cmp .in_ (.mth (.var 0) "next_sign" .nil) (.var 1))))) (b := exss (calls T (n + 1)) (.cons (.faug (.var 0) "at" (.lit (.int (1)))) .nil))
    (n := runTo z.cps.toList p h - h) (fun _ => [some (.ref 1), some (.p (.str w)), some (.p (.int (h : Int)))]) (fun k => Sx q z (h + k) R)
    (fun k hk => by
      obtain ⟨c, e1, e2⟩ := runTo_yes z.cps.toList p h (h + k) (by omega) (by omega)
      have ns := next_sign (q := q) (h := h + k) (R := R) n hz
      rw [at_some e1] at ns
      have ei : cop .in_ (.str (sg c)) (.str w) = some (p c) := (in_sg c w).trans (by rw [hp])
      rw [e2] at ei
      have sne : (sg c == ("" : Str)) = false := rfl
      simp [bind_ok, lft_ok, ofO_some, q_var, q_lit, q_glo, q_bin, q_cmp, q_idx, q_bif, q_call, q_nil, q_cons, q_val, q_tand, q_tor, q_tnot, q_ifs, q_set, q_snil, q_scons, q_gn, q_not, q_and', q_tup, q_lst, q_isi, q_ife, q_slc, q_onon, q_osom, q_yes, q_iex, q_ir1, q_att, q_ret, rd, rds, pures, q_mth, cls_ns, has_ns, ns, cop_nes, sne, truth, ei])
    (fun k hk => by
      have bi : (((h + k : Nat) : Int) + 1) = ((h + (k + 1) : Nat) : Int) := by omega
      simp only [q_scons, q_faug, q_var, q_lit, q_snil, List.getElem?_cons_zero, lft_ok, sx_at, if_true, bi, sx_put])
    (by
      have e : h + (runTo z.cps.toList p h - h) = runTo z.cps.toList p h := by omega
      have ns := next_sign (q := q) (h := runTo z.cps.toList p h) (R := R) n hz
      rw [e]
      rcases runTo_no z.cps.toList p h with e1 | ⟨c, e1, e2⟩
      · rw [at_none e1] at ns
        have sne : (("" : Str) == ("" : Str)) = true := rfl
        simp [bind_ok, lft_ok, ofO_some, q_var, q_lit, q_glo, q_bin, q_cmp, q_idx, q_bif, q_call, q_nil, q_cons, q_val, q_tand, q_tor, q_tnot, q_ifs, q_set, q_snil, q_scons, q_gn, q_not, q_and', q_tup, q_lst, q_isi, q_ife, q_slc, q_onon, q_osom, q_yes, q_iex, q_ir1, q_att, q_ret, rd, rds, pures, q_mth, cls_ns, has_ns, ns, cop_nes, sne, truth]
      · rw [at_some e1] at ns
        have ei : cop .in_ (.str (sg c)) (.str w) = some (p c) := (in_sg c w).trans (by rw [hp])
        rw [e2] at ei
        have sne : (sg c == ("" : Str)) = false := rfl
        simp [bind_ok, lft_ok, ofO_some, q_var, q_lit, q_glo, q_bin, q_cmp, q_idx, q_bif, q_call, q_nil, q_cons, q_val, q_tand, q_tor, q_tnot, q_ifs, q_set, q_snil, q_scons, q_gn, q_not, q_and', q_tup, q_lst, q_isi, q_ife, q_slc, q_onon, q_osom, q_yes, q_iex, q_ir1, q_att, q_ret, rd, rds, pures, q_mth, cls_ns, has_ns, ns, cop_nes, sne, truth, ei]) fuel (fuel_gt (by omega))
  rw [show h + (runTo z.cps.toList p h - h) = runTo z.cps.toList p h from by omega] at lp
  simp only [Nat.add_zero] at lp
  have ex : exss (calls T (n + 1)) b_ValueReader__run_of (startL ⟨2, 3, b_ValueReader__run_of, false⟩ [.ref 1, .p (.str w)]) (Sx q z h R) = some (.ret (.p (.str ⟨(cutC z.cps.toList h (runTo z.cps.toList p h)).toArray⟩)), Sx q z (runTo z.cps.toList p h) R) := by
    have hL : startL ⟨2, 3, b_ValueReader__run_of, false⟩ [.ref 1, .p (.str w)] = [some (.ref 1), some (.p (.str w)), none] := rfl
    rw [hL]
    unfold b_ValueReader__run_of
    rw [x_nx (L' := [some (.ref 1), some (.p (.str w)), some (.p (.int (h : Int)))]) (S' := Sx q z h R) (by simp [bind_ok, lft_ok, ofO_some, q_var, q_lit, q_glo, q_bin, q_cmp, q_idx, q_bif, q_call, q_nil, q_cons, q_val, q_tand, q_tor, q_tnot, q_ifs, q_set, q_snil, q_scons, q_gn, q_not, q_and', q_tup, q_lst, q_isi, q_ife, q_slc, q_onon, q_osom, q_yes, q_iex, q_ir1, q_att, q_ret, rd, rds, pures, sx_at]), x_nx ((q_whl _ _ _ _ _).trans lp)]
    simp [bind_ok, lft_ok, ofO_some, q_var, q_lit, q_glo, q_bin, q_cmp, q_idx, q_bif, q_call, q_nil, q_cons, q_val, q_tand, q_tor, q_tnot, q_ifs, q_set, q_snil, q_scons, q_gn, q_not, q_and', q_tup, q_lst, q_isi, q_ife, q_slc, q_onon, q_osom, q_yes, q_iex, q_ir1, q_att, q_ret, rd, rds, pures, sx_text, sx_at, st]
  exact (run_ret rfl ex sx_trim0).trans rfl
def bad : Exn := ⟨"BadText", []⟩
/-- what a method of the reader does -/
def Rds (q : List P) (z : Str) (R : List (List P)) (r : Res W) : Option (P × Nat) → Prop
  | some (p, e) => r = .ok (.p p) (Sx q z e R)
  | none => ∃ h', r = .ex bad (Sx q z h' R)
theorem cop_le (i j : Int) : cop .le (.int i) (.int j) = some (decide (i ≤ j)) := rfl
theorem cop_gt (i j : Int) : cop .gt (.int i) (.int j) = some (decide (j < i)) := rfl
theorem sub_bad : bad = ⟨"BadText", []⟩ := rfl
theorem number (n : Nat) (hz : z.length ≤ 100000) (hh : h ≤ z.length) : Rds q z R ((calls T (n + 3)).met "ValueReader" "number" [.ref 1] (Sx q z h R)) (num z.cps.toList h) := by
  rw [← numP_eq, met_run (n := n + 2) lk_nu, mb_nu]
  have hl := slen_toList z
  have ns := next_sign (q := q) (z := z) (h := h) (R := R) (n + 1) hz
  have e45 : (at_ z h == ("-" : Str)) = decide (z.cps.toList[h]? = some 45) := at_eq z h 45
  obtain ⟨h1, e1⟩ : ∃ h1, h1 = if z.cps.toList[h]? = some 45 then h + 1 else h := ⟨_, rfl⟩
  have hh1 : h1 ≤ z.length := by
    rw [e1]
    split
    · rename_i hq
      have := (List.getElem?_eq_some_iff.mp hq).1
      omega
    · exact hh
  have ro := run_of (q := q) (R := R) (h := h1) n hz hh1 (w := "0123456789") (p := isD) (fun c => rfl)
  have ds : (Str.mk (cutC z.cps.toList h1 (runTo z.cps.toList isD h1)).toArray).length = (cutC z.cps.toList h1 (runTo z.cps.toList isD h1)).length := by simp [Str.length]
  have dl : (cutC z.cps.toList h1 (runTo z.cps.toList isD h1)).length ≤ 100000 := by
    have e : (cutC z.cps.toList h1 (runTo z.cps.toList isD h1)).length ≤ (z.cps.toList.drop h1).length := List.length_take_le' _ _
    rw [List.length_drop] at e
    omega
  have ha : (cutC z.cps.toList h1 (runTo z.cps.toList isD h1)).all isD = true := by rw [cutC_run]; exact all_tw _
  unfold numP
  rw [← e1]
  dsimp only
  generalize runTo z.cps.toList isD h1 = e at ro ds dl ha
  generalize cutC z.cps.toList h1 e = b at ro ds dl ha
  have ln : bfn .len [.str ⟨b.toArray⟩] = some (.int b.length) := by
    have := len_str (z := ⟨b.toArray⟩) (by rw [ds]; exact dl)
    rwa [ds] at this
  have two : ∀ r, exss (calls T (n + 2)) (.cons (.ifs (.val (.cmp .eq (.var 1) (.lit (.str "-")))) (.cons (.faug (.var 0) "at" (.lit (.int (1)))) .nil) .nil) r) [some (.ref 1), some (.p (.str (at_ z h))), none] (Sx q z h R) = exss (calls T (n + 2)) r [some (.ref 1), some (.p (.str (at_ z h))), none] (Sx q z h1 R) := fun r => by
    by_cases c : z.cps.toList[h]? = some 45
    · rw [if_pos c] at e1
      rw [decide_eq_true c] at e45
      subst e1
      have bi : ((h : Int) + 1) = ((h + 1 : Nat) : Int) := rfl
      rw [q_scons, x_ift (S' := Sx q z h R) (by simp [bind_ok, lft_ok, ofO_some, q_var, q_lit, q_glo, q_bin, q_cmp, q_idx, q_bif, q_call, q_nil, q_cons, q_val, q_tand, q_tor, q_tnot, q_ifs, q_set, q_snil, q_scons, q_gn, q_not, q_and', q_tup, q_lst, q_isi, q_ife, q_slc, q_onon, q_osom, q_yes, q_iex, q_ir1, q_att, q_ret, rd, rds, pures, cop_eqs, e45, truth])]
      simp only [q_scons, q_faug, q_var, q_lit, q_snil, List.getElem?_cons_zero, lft_ok, sx_at, if_true, bi, sx_put]
    · rw [if_neg c] at e1
      rw [decide_eq_false c] at e45
      subst e1
      rw [x_nx (x_ifnx (S' := Sx q z h1 R) (by simp [bind_ok, lft_ok, ofO_some, q_var, q_lit, q_glo, q_bin, q_cmp, q_idx, q_bif, q_call, q_nil, q_cons, q_val, q_tand, q_tor, q_tnot, q_ifs, q_set, q_snil, q_scons, q_gn, q_not, q_and', q_tup, q_lst, q_isi, q_ife, q_slc, q_onon, q_osom, q_yes, q_iex, q_ir1, q_att, q_ret, rd, rds, pures, cop_eqs, e45, truth]))]
  have tail : ∀ o : Option (P × Nat), o = (if b.length = 0 ∨ 6 < b.length ∨ (b.head? = some 48 ∧ (1 < b.length ∨ z.cps.toList[h]? = some 45)) then none
      else some (.int (if z.cps.toList[h]? = some 45 then -((PySem.NumText.digitsVal b : Nat) : Int) else (PySem.NumText.digitsVal b : Nat)), e)) →
      exss (calls T (n + 2)) b_ValueReader__number [some (.ref 1), none, none] (Sx q z h R) = some (match o with | some (p, _) => .ret (.p p) | none => .exc bad [some (.ref 1), some (.p (.str (at_ z h))), some (.p (.str ⟨b.toArray⟩))], Sx q z e R) := by
    intro o ho
    subst ho
    unfold b_ValueReader__number
    rw [x_nx (L' := [some (.ref 1), some (.p (.str (at_ z h))), none]) (S' := Sx q z h R) (by simp [bind_ok, lft_ok, ofO_some, q_var, q_lit, q_glo, q_bin, q_cmp, q_idx, q_bif, q_call, q_nil, q_cons, q_val, q_tand, q_tor, q_tnot, q_ifs, q_set, q_snil, q_scons, q_gn, q_not, q_and', q_tup, q_lst, q_isi, q_ife, q_slc, q_onon, q_osom, q_yes, q_iex, q_ir1, q_att, q_ret, rd, rds, pures, q_mth, cls_ns, has_ns, ns]), two,
      x_nx (L' := [some (.ref 1), some (.p (.str (at_ z h))), some (.p (.str ⟨b.toArray⟩))]) (S' := Sx q z e R) (by simp [bind_ok, lft_ok, ofO_some, q_var, q_lit, q_glo, q_bin, q_cmp, q_idx, q_bif, q_call, q_nil, q_cons, q_val, q_tand, q_tor, q_tnot, q_ifs, q_set, q_snil, q_scons, q_gn, q_not, q_and', q_tup, q_lst, q_isi, q_ife, q_slc, q_onon, q_osom, q_yes, q_iex, q_ir1, q_att, q_ret, rd, rds, pures, q_mth, cls_ro, has_ro, ro])]
    by_cases c0 : b.length = 0
    · rw [if_pos (.inl c0)]
      have f1 : ¬ (1 : Int) ≤ (b.length : Int) := by omega
      rw [x_exc]
      rw [x_ift (S' := Sx q z e R) (by simp [bind_ok, lft_ok, ofO_some, q_var, q_lit, q_glo, q_bin, q_cmp, q_idx, q_bif, q_call, q_nil, q_cons, q_val, q_tand, q_tor, q_tnot, q_ifs, q_set, q_snil, q_scons, q_gn, q_not, q_and', q_tup, q_lst, q_isi, q_ife, q_slc, q_onon, q_osom, q_yes, q_iex, q_ir1, q_att, q_ret, rd, rds, pures, q_cmp2, cop_le, ln, c0, truth])]
      simp [bind_ok, lft_ok, ofO_some, q_var, q_lit, q_glo, q_bin, q_cmp, q_idx, q_bif, q_call, q_nil, q_cons, q_val, q_tand, q_tor, q_tnot, q_ifs, q_set, q_snil, q_scons, q_gn, q_not, q_and', q_tup, q_lst, q_isi, q_ife, q_slc, q_onon, q_osom, q_yes, q_iex, q_ir1, q_att, q_ret, rd, rds, pures, q_raise, sx_text, bad]
    · have f1 : (1 : Int) ≤ (b.length : Int) := by omega
      by_cases c6 : 6 < b.length
      · rw [if_pos (.inr (.inl c6))]
        have f2 : ¬ (b.length : Int) ≤ 6 := by omega
        rw [x_exc]
        rw [x_ift (S' := Sx q z e R) (by simp [bind_ok, lft_ok, ofO_some, q_var, q_lit, q_glo, q_bin, q_cmp, q_idx, q_bif, q_call, q_nil, q_cons, q_val, q_tand, q_tor, q_tnot, q_ifs, q_set, q_snil, q_scons, q_gn, q_not, q_and', q_tup, q_lst, q_isi, q_ife, q_slc, q_onon, q_osom, q_yes, q_iex, q_ir1, q_att, q_ret, rd, rds, pures, q_cmp2, cop_le, ln, decide_eq_true f1, decide_eq_false f2, truth])]
        simp [bind_ok, lft_ok, ofO_some, q_var, q_lit, q_glo, q_bin, q_cmp, q_idx, q_bif, q_call, q_nil, q_cons, q_val, q_tand, q_tor, q_tnot, q_ifs, q_set, q_snil, q_scons, q_gn, q_not, q_and', q_tup, q_lst, q_isi, q_ife, q_slc, q_onon, q_osom, q_yes, q_iex, q_ir1, q_att, q_ret, rd, rds, pures, q_raise, sx_text, bad]
      · have f2 : (b.length : Int) ≤ 6 := by omega
        obtain ⟨c, r, rfl⟩ : ∃ c r, b = c :: r := by
          cases b with
          | nil => exact absurd rfl c0
          | cons c r => exact ⟨c, r, rfl⟩
        have i0 := idx0 (z := ⟨(c :: r).toArray⟩) (by rw [ds]; exact dl) (c := c) (r := r) (by simp)
        have n48 : (sg c == ("0" : Str)) = decide (c = 48) := sg_eq c 48
        have it := int_digs ha (by simp) (by omega)
        have fin_ : ∀ hno : ¬ ((c :: r).length = 0 ∨ 6 < (c :: r).length ∨ ((c :: r).head? = some 48 ∧ (1 < (c :: r).length ∨ z.cps.toList[h]? = some 45))),
            exss (calls T (n + 2)) (.cons (.ret (.ife (.val (.cmp .eq (.var 1) (.lit (.str "-")))) (.neg (.bif .int (.cons (.var 2) .nil))) (.bif .int (.cons (.var 2) .nil)))) .nil) [some (.ref 1), some (.p (.str (at_ z h))), some (.p (.str ⟨(c :: r).toArray⟩))] (Sx q z e R) =
            some (.ret (.p (.int (if z.cps.toList[h]? = some 45 then -((PySem.NumText.digitsVal (c :: r) : Nat) : Int) else (PySem.NumText.digitsVal (c :: r) : Nat)))), Sx q z e R) := fun _ => by
          by_cases c45 : z.cps.toList[h]? = some 45
          · rw [decide_eq_true c45] at e45
            rw [if_pos c45, x_ret]
            simp only [bind_ok, lft_ok, ofO_some, q_var, q_lit, q_glo, q_bin, q_cmp, q_idx, q_bif, q_call, q_nil, q_cons, q_val, q_tand, q_tor, q_tnot, q_ifs, q_set, q_snil, q_scons, q_gn, q_not, q_and', q_tup, q_lst, q_isi, q_ife, q_slc, q_onon, q_osom, q_yes, q_iex, q_ir1, q_att, q_ret, rd, rds, pures, cop_eqs, e45, truth, it, q_neg, Option.bind, Option.map, List.getElem?_cons_zero, List.getElem?_cons_succ, if_true]
          · rw [decide_eq_false c45] at e45
            rw [if_neg c45, x_ret]
            simp only [bind_ok, lft_ok, ofO_some, q_var, q_lit, q_glo, q_bin, q_cmp, q_idx, q_bif, q_call, q_nil, q_cons, q_val, q_tand, q_tor, q_tnot, q_ifs, q_set, q_snil, q_scons, q_gn, q_not, q_and', q_tup, q_lst, q_isi, q_ife, q_slc, q_onon, q_osom, q_yes, q_iex, q_ir1, q_att, q_ret, rd, rds, pures, cop_eqs, e45, truth, it, q_neg, Option.bind, Option.map, List.getElem?_cons_zero, List.getElem?_cons_succ]
            rfl
        by_cases c48 : c = 48
        · subst c48
          have n48 : (sg 48 == ("0" : Str)) = true := rfl
          by_cases c1 : 1 < ((48 : Nat) :: r).length
          · have g1 : (1 : Int) < ((((48 : Nat) :: r).length : Nat) : Int) := by omega
            rw [if_pos (.inr (.inr ⟨rfl, .inl c1⟩)), x_exc]
            rw [x_ift (S' := Sx q z e R) (by simp only [bind_ok, lft_ok, ofO_some, q_var, q_lit, q_glo, q_bin, q_cmp, q_idx, q_bif, q_call, q_nil, q_cons, q_val, q_tand, q_tor, q_tnot, q_ifs, q_set, q_snil, q_scons, q_gn, q_not, q_and', q_tup, q_lst, q_isi, q_ife, q_slc, q_onon, q_osom, q_yes, q_iex, q_ir1, q_att, q_ret, rd, rds, pures, q_cmp2, cop_le, cop_gt, cop_eqs, ln, decide_eq_true f1, decide_eq_true f2, decide_eq_true g1, i0, n48, truth, Option.bind, Option.map, List.getElem?_cons_zero, List.getElem?_cons_succ, if_true, Bool.not_true, Bool.false_eq_true, if_false])]
            simp [bind_ok, lft_ok, ofO_some, q_var, q_lit, q_glo, q_bin, q_cmp, q_idx, q_bif, q_call, q_nil, q_cons, q_val, q_tand, q_tor, q_tnot, q_ifs, q_set, q_snil, q_scons, q_gn, q_not, q_and', q_tup, q_lst, q_isi, q_ife, q_slc, q_onon, q_osom, q_yes, q_iex, q_ir1, q_att, q_ret, rd, rds, pures, q_raise, sx_text, bad]
          · have g1 : ¬ (1 : Int) < ((((48 : Nat) :: r).length : Nat) : Int) := by omega
            by_cases c45 : z.cps.toList[h]? = some 45
            · rw [if_pos (.inr (.inr ⟨rfl, .inr c45⟩)), x_exc]
              rw [decide_eq_true c45] at e45
              rw [x_ift (S' := Sx q z e R) (by simp only [bind_ok, lft_ok, ofO_some, q_var, q_lit, q_glo, q_bin, q_cmp, q_idx, q_bif, q_call, q_nil, q_cons, q_val, q_tand, q_tor, q_tnot, q_ifs, q_set, q_snil, q_scons, q_gn, q_not, q_and', q_tup, q_lst, q_isi, q_ife, q_slc, q_onon, q_osom, q_yes, q_iex, q_ir1, q_att, q_ret, rd, rds, pures, q_cmp2, cop_le, cop_gt, cop_eqs, ln, decide_eq_true f1, decide_eq_true f2, decide_eq_false g1, i0, n48, e45, truth, Option.bind, Option.map, List.getElem?_cons_zero, List.getElem?_cons_succ, if_true, Bool.not_true, Bool.false_eq_true, if_false])]
              simp [bind_ok, lft_ok, ofO_some, q_var, q_lit, q_glo, q_bin, q_cmp, q_idx, q_bif, q_call, q_nil, q_cons, q_val, q_tand, q_tor, q_tnot, q_ifs, q_set, q_snil, q_scons, q_gn, q_not, q_and', q_tup, q_lst, q_isi, q_ife, q_slc, q_onon, q_osom, q_yes, q_iex, q_ir1, q_att, q_ret, rd, rds, pures, q_raise, sx_text, bad]
            · have hno : ¬ (((48 : Nat) :: r).length = 0 ∨ 6 < ((48 : Nat) :: r).length ∨ (((48 : Nat) :: r).head? = some 48 ∧ (1 < ((48 : Nat) :: r).length ∨ z.cps.toList[h]? = some 45))) := by
                rintro (q | q | ⟨_, q | q⟩)
                · exact c0 q
                · exact c6 q
                · exact c1 q
                · exact c45 q
              rw [if_neg hno]
              have e45' := e45
              rw [decide_eq_false c45] at e45'
              rw [x_nx (x_ifnx (S' := Sx q z e R) (by simp only [bind_ok, lft_ok, ofO_some, q_var, q_lit, q_glo, q_bin, q_cmp, q_idx, q_bif, q_call, q_nil, q_cons, q_val, q_tand, q_tor, q_tnot, q_ifs, q_set, q_snil, q_scons, q_gn, q_not, q_and', q_tup, q_lst, q_isi, q_ife, q_slc, q_onon, q_osom, q_yes, q_iex, q_ir1, q_att, q_ret, rd, rds, pures, q_cmp2, cop_le, cop_gt, cop_eqs, ln, decide_eq_true f1, decide_eq_true f2, decide_eq_false g1, i0, n48, e45', truth, Option.bind, Option.map, List.getElem?_cons_zero, List.getElem?_cons_succ, if_true, Bool.not_true, Bool.false_eq_true, if_false]))]
              exact fin_ hno
        · rw [decide_eq_false c48] at n48
          have hno : ¬ ((c :: r).length = 0 ∨ 6 < (c :: r).length ∨ ((c :: r).head? = some 48 ∧ (1 < (c :: r).length ∨ z.cps.toList[h]? = some 45))) := by
            rintro (q | q | ⟨q, _⟩)
            · exact c0 q
            · exact c6 q
            · injection q with q; exact c48 q
          rw [if_neg hno]
          rw [x_nx (x_ifnx (S' := Sx q z e R) (by simp only [bind_ok, lft_ok, ofO_some, q_var, q_lit, q_glo, q_bin, q_cmp, q_idx, q_bif, q_call, q_nil, q_cons, q_val, q_tand, q_tor, q_tnot, q_ifs, q_set, q_snil, q_scons, q_gn, q_not, q_and', q_tup, q_lst, q_isi, q_ife, q_slc, q_onon, q_osom, q_yes, q_iex, q_ir1, q_att, q_ret, rd, rds, pures, q_cmp2, cop_le, cop_gt, cop_eqs, ln, decide_eq_true f1, decide_eq_true f2, i0, n48, truth, Option.bind, Option.map, List.getElem?_cons_zero, List.getElem?_cons_succ, if_true, Bool.not_true, Bool.false_eq_true, if_false]))]
          exact fin_ hno
  have ht := tail _ rfl
  split
  · rename_i hc
    rw [if_pos hc] at ht
    exact ⟨e, run_exc (f := ⟨1, 3, b_ValueReader__number, false⟩) (as := [.ref 1]) (L := [some (.ref 1), some (.p (.str (at_ z h))), some (.p (.str ⟨b.toArray⟩))]) (S := Sx q z h R) (S' := Sx q z e R) rfl ht sx_trim0⟩
  · rename_i hc
    rw [if_neg hc] at ht
    exact (run_ret rfl ht sx_trim0).trans rfl
end
end K51

set_option Elab.async false
set_option linter.all false
set_option maxRecDepth 100000
set_option autoImplicit false
namespace K51
open MP PySem
def tailV (cs : List Nat) (v : Nat → Option (P × Nat)) : Nat → Nat → List P → Option (P × Nat)
  | 0, e, acc => if cs[e]? = some 93 then some (.tup acc, e + 1) else none
  | f + 1, e, acc => if cs[e]? = some 93 then some (.tup acc, e + 1) else if cs[e]? = some 32 then (match v (e + 1) with
    | none => none
    | some (p, e') => tailV cs v f e' (acc ++ [p])) else none
theorem loopV_tail (cs : List Nat) (v : Nat → Option (P × Nat)) : ∀ (f h : Nat) (acc : List P), loopV cs v (f + 1) h acc = match v h with
    | none => none
    | some (p, e) => tailV cs v f e (acc ++ [p])
  | 0, h, acc => by
    unfold loopV
    cases v h with
    | none => rfl
    | some r =>
      obtain ⟨p, e⟩ := r
      dsimp only [tailV, loopV]
      split
      · rfl
      · split <;> rfl
  | f + 1, h, acc => by
    unfold loopV
    cases v h with
    | none => rfl
    | some r =>
      obtain ⟨p, e⟩ := r
      dsimp only [tailV]
      split
      · rfl
      · split
        · exact loopV_tail cs v f (e + 1) (acc ++ [p])
        · rfl
section
variable {q : List P} {z : Str} {h : Nat} {R : List (List P)}
theorem sx_get {acc : List P} : (Sx q z h (R ++ [acc]))[R.length + 2]? = some (.lst acc) := by simp [Sx]
theorem sx_push {acc : List P} {p : P} (ha : acc.length < sizeLine) : pushAt (Sx q z h (R ++ [acc])) (R.length + 2) p = some (Sx q z h (R ++ [acc ++ [p]])) := by
  unfold pushAt
  rw [sx_get]
  dsimp only
  rw [if_pos ha]
  simp [Sx, List.set_append]
theorem sx_new : Sx q z h R ++ [Ob.lst []] = Sx q z h (R ++ [[]]) := by simp [Sx]
def tP : MT := .val (.cmp .eq (.mth (.var 0) "next_sign" .nil) (.lit (.str " ")))
def aP : MS := .app (.var 2) (.mth (.var 0) "value" (.cons (.bin .sub (.var 1) (.lit (.int (1)))) .nil))
def bP : MSs := (.cons (.faug (.var 0) "at" (.lit (.int (1)))) (.cons aP .nil))
/-- what value does at this depth -/
def VOk (N d : Nat) (z : Str) : Prop := ∀ (q : List P) (R : List (List P)) (h : Nat), h ≤ z.length → Rds q z R ((calls T N).met "ValueReader" "value" [.ref 1, .p (.int (d : Int))] (Sx q z h R)) (val z.cps.toList d h)
variable (hz9 : z.length ≤ 99999)
include hz9
theorem app_at {N d : Nat} (hv : VOk N d z) {acc : List P} (ha : acc.length ≤ h) (hh : h ≤ z.length) :
    exs (calls T N) aP [some (.ref 1), some (.p (.int ((d + 1 : Nat) : Int))), some (.ref (R.length + 2))] (Sx q z h (R ++ [acc])) =
      (match val z.cps.toList d h with
      | some (p, e) => some (.nx [some (.ref 1), some (.p (.int ((d + 1 : Nat) : Int))), some (.ref (R.length + 2))], Sx q z e (R ++ [acc ++ [p]]))
      | none => exs (calls T N) aP [some (.ref 1), some (.p (.int ((d + 1 : Nat) : Int))), some (.ref (R.length + 2))] (Sx q z h (R ++ [acc]))) ∧
    (val z.cps.toList d h = none → ∃ h', exs (calls T N) aP [some (.ref 1), some (.p (.int ((d + 1 : Nat) : Int))), some (.ref (R.length + 2))] (Sx q z h (R ++ [acc])) = some (.exc bad [some (.ref 1), some (.p (.int ((d + 1 : Nat) : Int))), some (.ref (R.length + 2))], Sx q z h' (R ++ [acc]))) := by
  have r := hv q (R ++ [acc]) h hh
  have bs : bop .sub (.int ((d + 1 : Nat) : Int)) (.int 1) = some (.int (d : Int)) := by
    show some (P.int (((d + 1 : Nat) : Int) - 1)) = _
    rw [show ((d + 1 : Nat) : Int) - 1 = (d : Int) from by omega]
  constructor
  · cases hc : val z.cps.toList d h with
    | none => rfl
    | some o =>
      obtain ⟨p, e⟩ := o
      rw [hc] at r
      have r : _ = _ := r
      dsimp only
      unfold aP
      simp only [q_app, bind_ok, lft_ok, ofO_some, q_var, q_lit, q_glo, q_bin, q_cmp, q_idx, q_bif, q_call, q_nil, q_cons, q_val, q_tand, q_tor, q_tnot, q_ifs, q_set, q_snil, q_scons, q_gn, q_not, q_and', q_tup, q_lst, q_isi, q_ife, q_slc, q_onon, q_osom, q_yes, q_iex, q_ir1, q_att, q_ret, rd, rds, pures, q_mth, cls_va, has_va, sx_get, bs, r, sx_push (show acc.length < sizeLine from by have := small (n := acc.length + 1) (by omega); omega), Option.bind, Option.map, List.getElem?_cons_zero, List.getElem?_cons_succ, if_true]
  · intro hc
    rw [hc] at r
    obtain ⟨h', r⟩ := r
    refine ⟨h', ?_⟩
    unfold aP
    simp only [q_app, bind_ok, lft_ok, ofO_some, q_var, q_lit, q_glo, q_bin, q_cmp, q_idx, q_bif, q_call, q_nil, q_cons, q_val, q_tand, q_tor, q_tnot, q_ifs, q_set, q_snil, q_scons, q_gn, q_not, q_and', q_tup, q_lst, q_isi, q_ife, q_slc, q_onon, q_osom, q_yes, q_iex, q_ir1, q_att, q_ret, rd, rds, pures, q_mth, cls_va, has_va, sx_get, bs, r, lft_ex, bind_ex, Option.bind, Option.map, List.getElem?_cons_zero, List.getElem?_cons_succ, if_true]
theorem loopP {N d : Nat} (hv : VOk (N + 1) d z) : ∀ (f m e : Nat) (acc : List P), e ≤ z.length → acc.length ≤ e → z.length - e ≤ f → f < m →
    (∃ acc' e', whlF (evT (calls T (N + 1)) tP) (exss (calls T (N + 1)) bP) m [some (.ref 1), some (.p (.int ((d + 1 : Nat) : Int))), some (.ref (R.length + 2))] (Sx q z e (R ++ [acc])) =
        some (.nx [some (.ref 1), some (.p (.int ((d + 1 : Nat) : Int))), some (.ref (R.length + 2))], Sx q z e' (R ++ [acc'])) ∧ e' ≤ z.length ∧ tailV z.cps.toList (val z.cps.toList d) f e acc = if z.cps.toList[e']? = some 93 then some (.tup acc', e' + 1) else none) ∨
    (∃ h' acc', whlF (evT (calls T (N + 1)) tP) (exss (calls T (N + 1)) bP) m [some (.ref 1), some (.p (.int ((d + 1 : Nat) : Int))), some (.ref (R.length + 2))] (Sx q z e (R ++ [acc])) =
        some (.exc bad [some (.ref 1), some (.p (.int ((d + 1 : Nat) : Int))), some (.ref (R.length + 2))], Sx q z h' (R ++ [acc'])) ∧ tailV z.cps.toList (val z.cps.toList d) f e acc = none) := by
  have hl := slen_toList z
  have hz : z.length ≤ 100000 := by omega
  intro f
  induction f with
  | zero =>
    intro m e acc he ha hf hm
    obtain ⟨m, rfl⟩ := Nat.exists_eq_succ_of_ne_zero (n := m) (by omega)
    have hc : z.cps.toList[e]? = none := List.getElem?_eq_none (by omega)
    have ns := next_sign (q := q) (h := e) (R := R ++ [acc]) N hz
    have e32 : (at_ z e == (" " : Str)) = decide (z.cps.toList[e]? = some 32) := at_eq z e 32
    rw [hc, decide_eq_false (by simp)] at e32
    refine .inl ⟨acc, e, ?_, he, ?_⟩
    · unfold whlF
      have ht : evT (calls T (N + 1)) tP [some (.ref 1), some (.p (.int ((d + 1 : Nat) : Int))), some (.ref (R.length + 2))] (Sx q z e (R ++ [acc])) = .ok false (Sx q z e (R ++ [acc])) := by
        unfold tP
        simp only [bind_ok, lft_ok, ofO_some, q_var, q_lit, q_glo, q_bin, q_cmp, q_idx, q_bif, q_call, q_nil, q_cons, q_val, q_tand, q_tor, q_tnot, q_ifs, q_set, q_snil, q_scons, q_gn, q_not, q_and', q_tup, q_lst, q_isi, q_ife, q_slc, q_onon, q_osom, q_yes, q_iex, q_ir1, q_att, q_ret, rd, rds, pures, q_mth, cls_ns, has_ns, ns, cop_eqs, e32, truth, Option.bind, Option.map, List.getElem?_cons_zero, if_true]
      rw [ht]
      rfl
    · rfl
  | succ f ih =>
    intro m e acc he ha hf hm
    obtain ⟨m, rfl⟩ := Nat.exists_eq_succ_of_ne_zero (n := m) (by omega)
    have ns := next_sign (q := q) (h := e) (R := R ++ [acc]) N hz
    have e32 : (at_ z e == (" " : Str)) = decide (z.cps.toList[e]? = some 32) := at_eq z e 32
    by_cases hc : z.cps.toList[e]? = some 32
    · rw [decide_eq_true hc] at e32
      have hlt : e < z.length := by have := (List.getElem?_eq_some_iff.mp hc).1; omega
      have ht : evT (calls T (N + 1)) tP [some (.ref 1), some (.p (.int ((d + 1 : Nat) : Int))), some (.ref (R.length + 2))] (Sx q z e (R ++ [acc])) = .ok true (Sx q z e (R ++ [acc])) := by
        unfold tP
        simp only [bind_ok, lft_ok, ofO_some, q_var, q_lit, q_glo, q_bin, q_cmp, q_idx, q_bif, q_call, q_nil, q_cons, q_val, q_tand, q_tor, q_tnot, q_ifs, q_set, q_snil, q_scons, q_gn, q_not, q_and', q_tup, q_lst, q_isi, q_ife, q_slc, q_onon, q_osom, q_yes, q_iex, q_ir1, q_att, q_ret, rd, rds, pures, q_mth, cls_ns, has_ns, ns, cop_eqs, e32, truth, Option.bind, Option.map, List.getElem?_cons_zero, if_true]
      have bi : ((e : Int) + 1) = ((e + 1 : Nat) : Int) := rfl
      have h1 : exss (calls T (N + 1)) bP [some (.ref 1), some (.p (.int ((d + 1 : Nat) : Int))), some (.ref (R.length + 2))] (Sx q z e (R ++ [acc])) = exss (calls T (N + 1)) (.cons aP .nil) [some (.ref 1), some (.p (.int ((d + 1 : Nat) : Int))), some (.ref (R.length + 2))] (Sx q z (e + 1) (R ++ [acc])) := by
        unfold bP
        refine x_nx ?_
        simp only [q_faug, q_var, q_lit, List.getElem?_cons_zero, lft_ok, sx_at, if_true, bi, sx_put]
      obtain ⟨a1, a2⟩ := app_at (q := q) (R := R) hz9 hv (h := e + 1) (acc := acc) (by omega) (by omega)
      have h93 : ¬ z.cps.toList[e]? = some 93 := by rw [hc]; simp
      cases hq : val z.cps.toList d (e + 1) with
      | none =>
        obtain ⟨h', a2⟩ := a2 hq
        refine .inr ⟨h', acc, ?_, ?_⟩
        · unfold whlF
          rw [ht, lft_ok, if_pos rfl, h1, x_exc a2]
        · unfold tailV
          rw [if_neg h93, if_pos hc, hq]
      | some o =>
        obtain ⟨p, e2⟩ := o
        rw [hq] at a1
        dsimp only at a1
        have hge := val_ge hq
        have hle := val_end hq
        have et : tailV z.cps.toList (val z.cps.toList d) (f + 1) e acc = tailV z.cps.toList (val z.cps.toList d) f e2 (acc ++ [p]) := by
          show (if z.cps.toList[e]? = some 93 then _ else if z.cps.toList[e]? = some 32 then (match val z.cps.toList d (e + 1) with | none => none | some (p, e') => tailV z.cps.toList (val z.cps.toList d) f e' (acc ++ [p])) else none) = _
          rw [if_neg h93, if_pos hc, hq]
        have ew : whlF (evT (calls T (N + 1)) tP) (exss (calls T (N + 1)) bP) (m + 1) [some (.ref 1), some (.p (.int ((d + 1 : Nat) : Int))), some (.ref (R.length + 2))] (Sx q z e (R ++ [acc])) =
            whlF (evT (calls T (N + 1)) tP) (exss (calls T (N + 1)) bP) m [some (.ref 1), some (.p (.int ((d + 1 : Nat) : Int))), some (.ref (R.length + 2))] (Sx q z e2 (R ++ [acc ++ [p]])) := by
          show lft _ (evT (calls T (N + 1)) tP _ _) _ = _
          rw [ht, lft_ok, if_pos rfl, h1, x_nx a1, q_snil]
        rw [ew, et]
        exact ih m e2 (acc ++ [p]) (by omega) (by rw [List.length_append, List.length_cons, List.length_nil]; omega) (by omega) (by omega)
    · rw [decide_eq_false hc] at e32
      refine .inl ⟨acc, e, ?_, he, ?_⟩
      · unfold whlF
        have ht : evT (calls T (N + 1)) tP [some (.ref 1), some (.p (.int ((d + 1 : Nat) : Int))), some (.ref (R.length + 2))] (Sx q z e (R ++ [acc])) = .ok false (Sx q z e (R ++ [acc])) := by
          unfold tP
          simp only [bind_ok, lft_ok, ofO_some, q_var, q_lit, q_glo, q_bin, q_cmp, q_idx, q_bif, q_call, q_nil, q_cons, q_val, q_tand, q_tor, q_tnot, q_ifs, q_set, q_snil, q_scons, q_gn, q_not, q_and', q_tup, q_lst, q_isi, q_ife, q_slc, q_onon, q_osom, q_yes, q_iex, q_ir1, q_att, q_ret, rd, rds, pures, q_mth, cls_ns, has_ns, ns, cop_eqs, e32, truth, Option.bind, Option.map, List.getElem?_cons_zero, if_true]
        rw [ht]
        rfl
      · show (if z.cps.toList[e]? = some 93 then _ else if z.cps.toList[e]? = some 32 then _ else none) = _
        rw [if_neg hc]
end
end K51

set_option Elab.async false
set_option linter.all false
set_option maxRecDepth 100000
set_option autoImplicit false
namespace K51
open MP PySem
theorem val_gt {cs : List Nat} {d h : Nat} {p : P} {e : Nat} (hv : val cs d h = some (p, e)) : h < e := by
  rw [val_eq] at hv
  cases hc : cs[h]? with
  | none => rw [hc] at hv; cases hv
  | some c =>
    rw [hc] at hv
    dsimp only at hv
    by_cases h1 : isW c = true ∧ isD c = false
    · rw [if_pos h1] at hv
      cases hv
      have := runTo_ge cs isW (h + 1)
      rw [runTo_step cs isW hc h1.1]
      omega
    · rw [if_neg h1] at hv
      by_cases h2 : c ≠ 91
      · rw [if_pos h2] at hv; exact (num_end hv).1
      · rw [if_neg h2] at hv
        cases d with
        | zero => cases hv
        | succ d =>
          dsimp only at hv
          by_cases h3 : cs[h + 1]? = some 93
          · rw [if_pos h3] at hv; cases hv; omega
          · rw [if_neg h3] at hv
            have := loopV_ge (fun h p e q => val_ge q) _ _ _ _ _ hv
            omega
section
variable {q : List P} {z : Str} {h : Nat} {R : List (List P)} (hz9 : z.length ≤ 99999)
include hz9
def endP : MSs := (.cons (.ifs (.val (.cmp .ne (.mth (.var 0) "next_sign" .nil) (.lit (.str "]"))))
 (.cons (.raise "BadText" (.att (.var 0) "text"))
 .nil)
 .nil)
 (.cons (.faug (.var 0) "at" (.lit (.int (1))))
 (.cons (.ret (.bif .tuple (.cons (.var 2) .nil)))
 .nil)))
theorem end_yes {N : Nat} {x : W} {acc : List P} (hc : z.cps.toList[h]? = some 93) : exss (calls T (N + 1)) endP [some (.ref 1), some x, some (.ref (R.length + 2))] (Sx q z h (R ++ [acc])) = some (.ret (.p (.tup acc)), Sx q z (h + 1) (R ++ [acc])) := by
  have hz : z.length ≤ 100000 := by omega
  have ns := next_sign (q := q) (h := h) (R := R ++ [acc]) N hz
  have e93 : (at_ z h == ("]" : Str)) = decide (z.cps.toList[h]? = some 93) := at_eq z h 93
  rw [decide_eq_true hc] at e93
  have bi : ((h : Int) + 1) = ((h + 1 : Nat) : Int) := rfl
  unfold endP
  rw [x_nx (x_ifnx (S' := Sx q z h (R ++ [acc])) (by simp only [bind_ok, lft_ok, ofO_some, q_var, q_lit, q_glo, q_bin, q_cmp, q_idx, q_bif, q_call, q_nil, q_cons, q_val, q_tand, q_tor, q_tnot, q_ifs, q_set, q_snil, q_scons, q_gn, q_not, q_and', q_tup, q_lst, q_isi, q_ife, q_slc, q_onon, q_osom, q_yes, q_iex, q_ir1, q_att, q_ret, rd, rds, pures, q_mth, cls_ns, has_ns, ns, cop_nes, e93, truth, Option.bind, Option.map, List.getElem?_cons_zero, if_true, Bool.not_true])),
    x_nx (L' := [some (.ref 1), some x, some (.ref (R.length + 2))]) (S' := Sx q z (h + 1) (R ++ [acc])) (by simp only [q_faug, q_var, q_lit, List.getElem?_cons_zero, lft_ok, sx_at, if_true, bi, sx_put])]
  rw [x_ret]
  simp only [bind_ok, lft_ok, ofO_some, q_var, q_lit, q_glo, q_bin, q_cmp, q_idx, q_bif, q_call, q_nil, q_cons, q_val, q_tand, q_tor, q_tnot, q_ifs, q_set, q_snil, q_scons, q_gn, q_not, q_and', q_tup, q_lst, q_isi, q_ife, q_slc, q_onon, q_osom, q_yes, q_iex, q_ir1, q_att, q_ret, rd, rds, pures, sx_get, bfn_tup, Option.bind, Option.map, List.getElem?_cons_zero, List.getElem?_cons_succ]
theorem end_no {N : Nat} {x : W} {acc : List P} (hc : ¬ z.cps.toList[h]? = some 93) : exss (calls T (N + 1)) endP [some (.ref 1), some x, some (.ref (R.length + 2))] (Sx q z h (R ++ [acc])) = some (.exc bad [some (.ref 1), some x, some (.ref (R.length + 2))], Sx q z h (R ++ [acc])) := by
  have hz : z.length ≤ 100000 := by omega
  have ns := next_sign (q := q) (h := h) (R := R ++ [acc]) N hz
  have e93 : (at_ z h == ("]" : Str)) = decide (z.cps.toList[h]? = some 93) := at_eq z h 93
  rw [decide_eq_false hc] at e93
  unfold endP
  refine x_exc ?_
  rw [x_ift (S' := Sx q z h (R ++ [acc])) (by simp only [bind_ok, lft_ok, ofO_some, q_var, q_lit, q_glo, q_bin, q_cmp, q_idx, q_bif, q_call, q_nil, q_cons, q_val, q_tand, q_tor, q_tnot, q_ifs, q_set, q_snil, q_scons, q_gn, q_not, q_and', q_tup, q_lst, q_isi, q_ife, q_slc, q_onon, q_osom, q_yes, q_iex, q_ir1, q_att, q_ret, rd, rds, pures, q_mth, cls_ns, has_ns, ns, cop_nes, e93, truth, Option.bind, Option.map, List.getElem?_cons_zero, if_true, Bool.not_false])]
  simp only [bind_ok, lft_ok, ofO_some, q_var, q_lit, q_glo, q_bin, q_cmp, q_idx, q_bif, q_call, q_nil, q_cons, q_val, q_tand, q_tor, q_tnot, q_ifs, q_set, q_snil, q_scons, q_gn, q_not, q_and', q_tup, q_lst, q_isi, q_ife, q_slc, q_onon, q_osom, q_yes, q_iex, q_ir1, q_att, q_ret, rd, rds, pures, q_raise, sx_text, List.getElem?_cons_zero, bad]
theorem parts {N d : Nat} (hv : VOk (N + 1) d z) (hh : h ≤ z.length) : Rds q z R ((calls T (N + 2)).met "ValueReader" "parts" [.ref 1, .p (.int ((d + 1 : Nat) : Int))] (Sx q z h R))
    (if z.cps.toList[h]? = some 93 then some (.tup [], h + 1) else loopV z.cps.toList (val z.cps.toList d) (z.cps.toList.length + 1) h []) := by
  have hz : z.length ≤ 100000 := by omega
  have hl := slen_toList z
  rw [met_run (n := N + 1) lk_pa, mb_pa]
  have hL : startL ⟨2, 3, b_ValueReader__parts, false⟩ [.ref 1, .p (.int ((d + 1 : Nat) : Int))] = [some (.ref 1), some (.p (.int ((d + 1 : Nat) : Int))), none] := rfl
  have c0 : cut sizeLine ([] : List P) = some [] := if_pos (small (by simp))
  have ns := next_sign (q := q) (h := h) (R := R ++ [[]]) N hz
  have e93 : (at_ z h == ("]" : Str)) = decide (z.cps.toList[h]? = some 93) := at_eq z h 93
  have first : ∀ r, exss (calls T (N + 1)) (.cons (.new 2 (.lst .nil)) r) [some (.ref 1), some (.p (.int ((d + 1 : Nat) : Int))), none] (Sx q z h R) = exss (calls T (N + 1)) r [some (.ref 1), some (.p (.int ((d + 1 : Nat) : Int))), some (.ref (R.length + 2))] (Sx q z h (R ++ [[]])) := fun r => by
    refine x_nx ?_
    rw [← sx_new, ← sx_len (q := q) (z := z) (h := h)]
    simp [q_new, bind_ok, lft_ok, ofO_some, q_var, q_lit, q_glo, q_bin, q_cmp, q_idx, q_bif, q_call, q_nil, q_cons, q_val, q_tand, q_tor, q_tnot, q_ifs, q_set, q_snil, q_scons, q_gn, q_not, q_and', q_tup, q_lst, q_isi, q_ife, q_slc, q_onon, q_osom, q_yes, q_iex, q_ir1, q_att, q_ret, rd, rds, pures, c0]
  have fin_ret : ∀ (p : P) (e : Nat) (acc : List P), exss (calls T (N + 1)) b_ValueReader__parts [some (.ref 1), some (.p (.int ((d + 1 : Nat) : Int))), none] (Sx q z h R) = some (.ret (.p p), Sx q z e (R ++ [acc])) →
      runF (calls T (N + 1)) ⟨2, 3, b_ValueReader__parts, false⟩ [.ref 1, .p (.int ((d + 1 : Nat) : Int))] (Sx q z h R) = .ok (.p p) (Sx q z e R) := fun p e acc ex => (run_ret rfl (hL ▸ ex) (sx_trim [acc])).trans rfl
  have fin_exc : ∀ (L : MP.Loc) (e : Nat) (acc : List P), exss (calls T (N + 1)) b_ValueReader__parts [some (.ref 1), some (.p (.int ((d + 1 : Nat) : Int))), none] (Sx q z h R) = some (.exc bad L, Sx q z e (R ++ [acc])) →
      runF (calls T (N + 1)) ⟨2, 3, b_ValueReader__parts, false⟩ [.ref 1, .p (.int ((d + 1 : Nat) : Int))] (Sx q z h R) = .ex bad (Sx q z e R) := fun L e acc ex => run_exc (f := ⟨2, 3, b_ValueReader__parts, false⟩) rfl (hL ▸ ex) (sx_trim [acc])
  by_cases hc : z.cps.toList[h]? = some 93
  · rw [if_pos hc]
    refine fin_ret (.tup []) (h + 1) [] ?_
    rw [decide_eq_true hc] at e93
    unfold b_ValueReader__parts
    rw [first, x_nx (x_ifnx (S' := Sx q z h (R ++ [[]])) (by simp only [bind_ok, lft_ok, ofO_some, q_var, q_lit, q_glo, q_bin, q_cmp, q_idx, q_bif, q_call, q_nil, q_cons, q_val, q_tand, q_tor, q_tnot, q_ifs, q_set, q_snil, q_scons, q_gn, q_not, q_and', q_tup, q_lst, q_isi, q_ife, q_slc, q_onon, q_osom, q_yes, q_iex, q_ir1, q_att, q_ret, rd, rds, pures, q_mth, cls_ns, has_ns, ns, cop_nes, e93, truth, Option.bind, Option.map, List.getElem?_cons_zero, if_true, Bool.not_true]))]
    exact end_yes hz9 hc
  · rw [if_neg hc, loopV_tail]
    rw [decide_eq_false hc] at e93
    obtain ⟨a1, a2⟩ := app_at (q := q) (R := R) hz9 hv (h := h) (acc := []) (by simp) hh
    have test : ∀ r, exss (calls T (N + 1)) (.cons (.ifs (.val (.cmp .ne (.mth (.var 0) "next_sign" .nil) (.lit (.str "]")))) (.cons aP (.cons (.whl tP bP) .nil)) .nil) r) [some (.ref 1), some (.p (.int ((d + 1 : Nat) : Int))), some (.ref (R.length + 2))] (Sx q z h (R ++ [[]])) =
        (match exss (calls T (N + 1)) (.cons aP (.cons (.whl tP bP) .nil)) [some (.ref 1), some (.p (.int ((d + 1 : Nat) : Int))), some (.ref (R.length + 2))] (Sx q z h (R ++ [[]])) with
        | some (.nx L', S') => exss (calls T (N + 1)) r L' S'
        | r => r) := fun r => by
      rw [q_scons, x_ift (S' := Sx q z h (R ++ [[]])) (by simp only [bind_ok, lft_ok, ofO_some, q_var, q_lit, q_glo, q_bin, q_cmp, q_idx, q_bif, q_call, q_nil, q_cons, q_val, q_tand, q_tor, q_tnot, q_ifs, q_set, q_snil, q_scons, q_gn, q_not, q_and', q_tup, q_lst, q_isi, q_ife, q_slc, q_onon, q_osom, q_yes, q_iex, q_ir1, q_att, q_ret, rd, rds, pures, q_mth, cls_ns, has_ns, ns, cop_nes, e93, truth, Option.bind, Option.map, List.getElem?_cons_zero, if_true, Bool.not_false])]
      all_goals rfl
    have whole : exss (calls T (N + 1)) b_ValueReader__parts [some (.ref 1), some (.p (.int ((d + 1 : Nat) : Int))), none] (Sx q z h R) =
        (match exss (calls T (N + 1)) (.cons aP (.cons (.whl tP bP) .nil)) [some (.ref 1), some (.p (.int ((d + 1 : Nat) : Int))), some (.ref (R.length + 2))] (Sx q z h (R ++ [[]])) with
        | some (.nx L', S') => exss (calls T (N + 1)) endP L' S'
        | r => r) := (first _).trans (test endP)
    cases hq : val z.cps.toList d h with
    | none =>
      obtain ⟨h', a2⟩ := a2 hq
      refine ⟨h', fin_exc [some (.ref 1), some (.p (.int ((d + 1 : Nat) : Int))), some (.ref (R.length + 2))] h' [] ?_⟩
      rw [whole, x_exc a2]
    | some o =>
      obtain ⟨p, e⟩ := o
      rw [hq] at a1
      dsimp only at a1 ⊢
      have hge := val_ge hq
      have hle := val_end hq
      rw [List.nil_append] at a1 ⊢
      have lp := loopP (q := q) (R := R) hz9 hv z.cps.toList.length fuel e [p] (by omega) (by
        have : 1 ≤ e := by
          have := val_gt hq
          omega
        simpa using this) (by omega) (fuel_gt (by omega))
      rcases lp with ⟨acc', e', w1, w2, w3⟩ | ⟨h', acc', w1, w2⟩
      · rw [w3]
        have e1 : exss (calls T (N + 1)) (.cons aP (.cons (.whl tP bP) .nil)) [some (.ref 1), some (.p (.int ((d + 1 : Nat) : Int))), some (.ref (R.length + 2))] (Sx q z h (R ++ [[]])) = some (.nx [some (.ref 1), some (.p (.int ((d + 1 : Nat) : Int))), some (.ref (R.length + 2))], Sx q z e' (R ++ [acc'])) := by
          rw [x_nx a1, x_nx ((q_whl _ _ _ _ _).trans w1), q_snil]
        by_cases hc' : z.cps.toList[e']? = some 93
        · rw [if_pos hc']
          refine fin_ret _ _ acc' ?_
          rw [whole, e1]
          exact end_yes hz9 hc'
        · rw [if_neg hc']
          refine ⟨e', fin_exc [some (.ref 1), some (.p (.int ((d + 1 : Nat) : Int))), some (.ref (R.length + 2))] e' acc' ?_⟩
          rw [whole, e1]
          exact end_no hz9 hc'
      · rw [w2]
        refine ⟨h', fin_exc [some (.ref 1), some (.p (.int ((d + 1 : Nat) : Int))), some (.ref (R.length + 2))] h' acc' ?_⟩
        rw [whole, x_nx a1, x_exc ((q_whl _ _ _ _ _).trans w1)]
theorem valueB {N d : Nat} (hv : ∀ {d' : Nat}, d = d' + 1 → VOk (N + 1 + 1) d' z) : VOk (N + 4) d z := by
  intro q R h hh
  have hz : z.length ≤ 100000 := by omega
  have hl := slen_toList z
  rw [met_run (n := N + 3) lk_va, mb_va]
  have ns := next_sign (q := q) (h := h) (R := R) (N + 2) hz
  have hL : startL ⟨2, 3, b_ValueReader__value, false⟩ [.ref 1, .p (.int (d : Int))] = [some (.ref 1), some (.p (.int (d : Int))), none] := rfl
  have s1 : ∀ r, exss (calls T (N + 3)) (.cons (.set (.g (.name 2)) (.mth (.var 0) "next_sign" .nil)) r) [some (.ref 1), some (.p (.int (d : Int))), none] (Sx q z h R) = exss (calls T (N + 3)) r [some (.ref 1), some (.p (.int (d : Int))), some (.p (.str (at_ z h)))] (Sx q z h R) := fun r => by
    refine x_nx ?_
    simp [bind_ok, lft_ok, ofO_some, q_var, q_lit, q_glo, q_bin, q_cmp, q_idx, q_bif, q_call, q_nil, q_cons, q_val, q_tand, q_tor, q_tnot, q_ifs, q_set, q_snil, q_scons, q_gn, q_not, q_and', q_tup, q_lst, q_isi, q_ife, q_slc, q_onon, q_osom, q_yes, q_iex, q_ir1, q_att, q_ret, rd, rds, pures, q_mth, cls_ns, has_ns, ns]
  have ret : ∀ (p : P) (e : Nat), exss (calls T (N + 3)) b_ValueReader__value [some (.ref 1), some (.p (.int (d : Int))), none] (Sx q z h R) = some (.ret (.p p), Sx q z e R) →
      runF (calls T (N + 3)) ⟨2, 3, b_ValueReader__value, false⟩ [.ref 1, .p (.int (d : Int))] (Sx q z h R) = .ok (.p p) (Sx q z e R) := fun p e ex => (run_ret rfl (hL ▸ ex) sx_trim0).trans rfl
  have exc : ∀ (L : MP.Loc) (e : Nat), exss (calls T (N + 3)) b_ValueReader__value [some (.ref 1), some (.p (.int (d : Int))), none] (Sx q z h R) = some (.exc bad L, Sx q z e R) →
      runF (calls T (N + 3)) ⟨2, 3, b_ValueReader__value, false⟩ [.ref 1, .p (.int (d : Int))] (Sx q z h R) = .ex bad (Sx q z e R) := fun L e ex => run_exc (f := ⟨2, 3, b_ValueReader__value, false⟩) rfl (hL ▸ ex) sx_trim0
  -- what is not a word
  have noword : (∀ c, z.cps.toList[h]? = some c → ¬ (isW c = true ∧ isD c = false)) → evT (calls T (N + 3)) (.and (.val (.cmp .ne (.var 2) (.lit (.str "")))) (.and (.val (.cmp .in_ (.var 2) (.glo "WORD" (.str "abcdefghijklmnopqrstuvwxyz0123456789")))) (.val (.cmp .notin (.var 2) (.glo "DIGITS" (.str "0123456789")))))) [some (.ref 1), some (.p (.int (d : Int))), some (.p (.str (at_ z h)))] (Sx q z h R) = .ok false (Sx q z h R) := fun hw => by
    cases hc : z.cps.toList[h]? with
    | none =>
      rw [at_none hc]
      have sne : (("" : Str) == ("" : Str)) = true := rfl
      simp [bind_ok, lft_ok, ofO_some, q_var, q_lit, q_glo, q_bin, q_cmp, q_idx, q_bif, q_call, q_nil, q_cons, q_val, q_tand, q_tor, q_tnot, q_ifs, q_set, q_snil, q_scons, q_gn, q_not, q_and', q_tup, q_lst, q_isi, q_ife, q_slc, q_onon, q_osom, q_yes, q_iex, q_ir1, q_att, q_ret, rd, rds, pures, cop_nes, sne, truth]
    | some c =>
      rw [at_some hc]
      have sne : (sg c == ("" : Str)) = false := rfl
      have ei : cop .in_ (.str (sg c)) (.str ("abcdefghijklmnopqrstuvwxyz0123456789" : Str)) = some (isW c) := in_sg c _
      have en : cop .notin (.str (sg c)) (.str ("0123456789" : Str)) = some (!isD c) := notin_sg c _
      have := hw c hc
      cases h1 : isW c with
      | false => rw [h1] at ei; simp [bind_ok, lft_ok, ofO_some, q_var, q_lit, q_glo, q_bin, q_cmp, q_idx, q_bif, q_call, q_nil, q_cons, q_val, q_tand, q_tor, q_tnot, q_ifs, q_set, q_snil, q_scons, q_gn, q_not, q_and', q_tup, q_lst, q_isi, q_ife, q_slc, q_onon, q_osom, q_yes, q_iex, q_ir1, q_att, q_ret, rd, rds, pures, cop_nes, sne, ei, truth]
      | true =>
        have h2 : isD c = true := by simpa [h1] using this
        rw [h1] at ei
        rw [h2] at en
        simp [bind_ok, lft_ok, ofO_some, q_var, q_lit, q_glo, q_bin, q_cmp, q_idx, q_bif, q_call, q_nil, q_cons, q_val, q_tand, q_tor, q_tnot, q_ifs, q_set, q_snil, q_scons, q_gn, q_not, q_and', q_tup, q_lst, q_isi, q_ife, q_slc, q_onon, q_osom, q_yes, q_iex, q_ir1, q_att, q_ret, rd, rds, pures, cop_nes, sne, ei, en, truth]
  -- a number
  have num_ : (∀ c, z.cps.toList[h]? = some c → ¬ (isW c = true ∧ isD c = false)) → z.cps.toList[h]? ≠ some 91 → Rds q z R (runF (calls T (N + 3)) ⟨2, 3, b_ValueReader__value, false⟩ [.ref 1, .p (.int (d : Int))] (Sx q z h R)) (num z.cps.toList h) := fun hw h91 => by
    have nu := number (q := q) (R := R) (h := h) N hz hh
    have e91 : (at_ z h == ("[" : Str)) = decide (z.cps.toList[h]? = some 91) := at_eq z h 91
    rw [decide_eq_false h91] at e91
    have go : exss (calls T (N + 3)) b_ValueReader__value [some (.ref 1), some (.p (.int (d : Int))), none] (Sx q z h R) =
        (match exss (calls T (N + 3)) (.cons (.ret (.mth (.var 0) "number" .nil)) .nil) [some (.ref 1), some (.p (.int (d : Int))), some (.p (.str (at_ z h)))] (Sx q z h R) with
        | some (.nx L', S') => none
        | r => r) := by
      unfold b_ValueReader__value
      rw [s1, x_nx (x_ifnx (noword hw)), q_scons, x_ift (S' := Sx q z h R) (by simp [bind_ok, lft_ok, ofO_some, q_var, q_lit, q_glo, q_bin, q_cmp, q_idx, q_bif, q_call, q_nil, q_cons, q_val, q_tand, q_tor, q_tnot, q_ifs, q_set, q_snil, q_scons, q_gn, q_not, q_and', q_tup, q_lst, q_isi, q_ife, q_slc, q_onon, q_osom, q_yes, q_iex, q_ir1, q_att, q_ret, rd, rds, pures, cop_nes, e91, truth])]
      cases hnum : num z.cps.toList h with
      | none =>
        rw [hnum] at nu
        obtain ⟨h', nu⟩ := nu
        simp [bind_ok, lft_ok, ofO_some, q_var, q_lit, q_glo, q_bin, q_cmp, q_idx, q_bif, q_call, q_nil, q_cons, q_val, q_tand, q_tor, q_tnot, q_ifs, q_set, q_snil, q_scons, q_gn, q_not, q_and', q_tup, q_lst, q_isi, q_ife, q_slc, q_onon, q_osom, q_yes, q_iex, q_ir1, q_att, q_ret, rd, rds, pures, q_mth, cls_nu, has_nu, nu, lft_ex]
      | some o =>
        obtain ⟨p, e⟩ := o
        rw [hnum] at nu
        have nu : _ = _ := nu
        simp [bind_ok, lft_ok, ofO_some, q_var, q_lit, q_glo, q_bin, q_cmp, q_idx, q_bif, q_call, q_nil, q_cons, q_val, q_tand, q_tor, q_tnot, q_ifs, q_set, q_snil, q_scons, q_gn, q_not, q_and', q_tup, q_lst, q_isi, q_ife, q_slc, q_onon, q_osom, q_yes, q_iex, q_ir1, q_att, q_ret, rd, rds, pures, q_mth, cls_nu, has_nu, nu]
    cases hnum : num z.cps.toList h with
    | none =>
      rw [hnum] at nu
      obtain ⟨h', nu⟩ := nu
      refine ⟨h', exc [some (.ref 1), some (.p (.int (d : Int))), some (.p (.str (at_ z h)))] h' ?_⟩
      rw [go]
      simp [bind_ok, lft_ok, ofO_some, q_var, q_lit, q_glo, q_bin, q_cmp, q_idx, q_bif, q_call, q_nil, q_cons, q_val, q_tand, q_tor, q_tnot, q_ifs, q_set, q_snil, q_scons, q_gn, q_not, q_and', q_tup, q_lst, q_isi, q_ife, q_slc, q_onon, q_osom, q_yes, q_iex, q_ir1, q_att, q_ret, rd, rds, pures, q_mth, cls_nu, has_nu, nu, lft_ex]
    | some o =>
      obtain ⟨p, e⟩ := o
      rw [hnum] at nu
      have nu : _ = _ := nu
      refine ret p e ?_
      rw [go]
      simp [bind_ok, lft_ok, ofO_some, q_var, q_lit, q_glo, q_bin, q_cmp, q_idx, q_bif, q_call, q_nil, q_cons, q_val, q_tand, q_tor, q_tnot, q_ifs, q_set, q_snil, q_scons, q_gn, q_not, q_and', q_tup, q_lst, q_isi, q_ife, q_slc, q_onon, q_osom, q_yes, q_iex, q_ir1, q_att, q_ret, rd, rds, pures, q_mth, cls_nu, has_nu, nu]
  rw [val_eq]
  cases hc : z.cps.toList[h]? with
  | none =>
    dsimp only
    rw [← num_none hc]
    exact num_ (fun c e => by rw [hc] at e; cases e) (by rw [hc]; simp)
  | some c =>
    have hlt : h < z.length := by have := (List.getElem?_eq_some_iff.mp hc).1; omega
    dsimp only
    by_cases h1 : isW c = true ∧ isD c = false
    · rw [if_pos h1]
      have sne : (sg c == ("" : Str)) = false := rfl
      have ei : cop .in_ (.str (sg c)) (.str ("abcdefghijklmnopqrstuvwxyz0123456789" : Str)) = some (isW c) := in_sg c _
      have en : cop .notin (.str (sg c)) (.str ("0123456789" : Str)) = some (!isD c) := notin_sg c _
      rw [h1.1] at ei
      rw [h1.2] at en
      have ro := run_of (q := q) (R := R) (h := h) (N + 1) hz hh (w := "abcdefghijklmnopqrstuvwxyz0123456789") (p := isW) (fun c => rfl)
      refine ret _ _ ?_
      unfold b_ValueReader__value
      rw [s1, at_some hc, q_scons, x_ift (S' := Sx q z h R) (by simp [bind_ok, lft_ok, ofO_some, q_var, q_lit, q_glo, q_bin, q_cmp, q_idx, q_bif, q_call, q_nil, q_cons, q_val, q_tand, q_tor, q_tnot, q_ifs, q_set, q_snil, q_scons, q_gn, q_not, q_and', q_tup, q_lst, q_isi, q_ife, q_slc, q_onon, q_osom, q_yes, q_iex, q_ir1, q_att, q_ret, rd, rds, pures, cop_nes, sne, ei, en, truth])]
      simp [bind_ok, lft_ok, ofO_some, q_var, q_lit, q_glo, q_bin, q_cmp, q_idx, q_bif, q_call, q_nil, q_cons, q_val, q_tand, q_tor, q_tnot, q_ifs, q_set, q_snil, q_scons, q_gn, q_not, q_and', q_tup, q_lst, q_isi, q_ife, q_slc, q_onon, q_osom, q_yes, q_iex, q_ir1, q_att, q_ret, rd, rds, pures, q_mth, cls_ro, has_ro, ro]
    · rw [if_neg h1]
      by_cases h2 : c ≠ 91
      · rw [if_pos h2]
        exact num_ (fun c' e => by rw [hc] at e; cases e; exact h1) (by rw [hc]; simpa using h2)
      · have h2 : c = 91 := by omega
        subst h2
        rw [if_neg (by omega)]
        have hw : ∀ c, z.cps.toList[h]? = some c → ¬ (isW c = true ∧ isD c = false) := fun c' e => by rw [hc] at e; cases e; exact h1
        have e91 : (sg 91 == ("[" : Str)) = true := rfl
        have nw := noword hw
        rw [at_some hc] at s1 nw
        cases d with
        | zero =>
          refine ⟨h, exc [some (.ref 1), some (.p (.int 0)), some (.p (.str (sg 91)))] h ?_⟩
          unfold b_ValueReader__value
          rw [s1, x_nx (x_ifnx nw), x_nx (x_ifnx (S' := Sx q z h R) (by simp [bind_ok, lft_ok, ofO_some, q_var, q_lit, q_glo, q_bin, q_cmp, q_idx, q_bif, q_call, q_nil, q_cons, q_val, q_tand, q_tor, q_tnot, q_ifs, q_set, q_snil, q_scons, q_gn, q_not, q_and', q_tup, q_lst, q_isi, q_ife, q_slc, q_onon, q_osom, q_yes, q_iex, q_ir1, q_att, q_ret, rd, rds, pures, cop_nes, e91, truth]))]
          refine x_exc ?_
          rw [x_ift (S' := Sx q z h R) (by simp [bind_ok, lft_ok, ofO_some, q_var, q_lit, q_glo, q_bin, q_cmp, q_idx, q_bif, q_call, q_nil, q_cons, q_val, q_tand, q_tor, q_tnot, q_ifs, q_set, q_snil, q_scons, q_gn, q_not, q_and', q_tup, q_lst, q_isi, q_ife, q_slc, q_onon, q_osom, q_yes, q_iex, q_ir1, q_att, q_ret, rd, rds, pures, cop_eqi, truth])]
          simp [bind_ok, lft_ok, ofO_some, q_var, q_lit, q_glo, q_bin, q_cmp, q_idx, q_bif, q_call, q_nil, q_cons, q_val, q_tand, q_tor, q_tnot, q_ifs, q_set, q_snil, q_scons, q_gn, q_not, q_and', q_tup, q_lst, q_isi, q_ife, q_slc, q_onon, q_osom, q_yes, q_iex, q_ir1, q_att, q_ret, rd, rds, pures, q_raise, sx_text, bad]
        | succ d =>
          dsimp only
          have hD0 : ¬ ((d + 1 : Nat) : Int) = 0 := by omega
          have pa := parts (q := q) (h := h + 1) (R := R) hz9 (N := N + 1) (d := d) (hv rfl) (by omega)
          rw [show h + 2 = h + 1 + 1 from rfl]
          have bi : ((h : Int) + 1) = ((h + 1 : Nat) : Int) := rfl
          have go : exss (calls T (N + 3)) b_ValueReader__value [some (.ref 1), some (.p (.int ((d + 1 : Nat) : Int))), none] (Sx q z h R) =
              exss (calls T (N + 3)) (.cons (.ret (.mth (.var 0) "parts" (.cons (.var 1) .nil))) .nil) [some (.ref 1), some (.p (.int ((d + 1 : Nat) : Int))), some (.p (.str (sg 91)))] (Sx q z (h + 1) R) := by
            unfold b_ValueReader__value
            rw [s1, x_nx (x_ifnx nw), x_nx (x_ifnx (S' := Sx q z h R) (by simp [bind_ok, lft_ok, ofO_some, q_var, q_lit, q_glo, q_bin, q_cmp, q_idx, q_bif, q_call, q_nil, q_cons, q_val, q_tand, q_tor, q_tnot, q_ifs, q_set, q_snil, q_scons, q_gn, q_not, q_and', q_tup, q_lst, q_isi, q_ife, q_slc, q_onon, q_osom, q_yes, q_iex, q_ir1, q_att, q_ret, rd, rds, pures, cop_nes, e91, truth])), x_nx (x_ifnx (S' := Sx q z h R) (by simp only [bind_ok, lft_ok, ofO_some, q_var, q_lit, q_glo, q_bin, q_cmp, q_idx, q_bif, q_call, q_nil, q_cons, q_val, q_tand, q_tor, q_tnot, q_ifs, q_set, q_snil, q_scons, q_gn, q_not, q_and', q_tup, q_lst, q_isi, q_ife, q_slc, q_onon, q_osom, q_yes, q_iex, q_ir1, q_att, q_ret, rd, rds, pures, cop_eqi, decide_eq_false hD0, truth, Option.bind, Option.map, List.getElem?_cons_zero, List.getElem?_cons_succ])),
              x_nx (L' := [some (.ref 1), some (.p (.int ((d + 1 : Nat) : Int))), some (.p (.str (sg 91)))]) (S' := Sx q z (h + 1) R) (by simp only [q_faug, q_var, q_lit, List.getElem?_cons_zero, lft_ok, sx_at, if_true, bi, sx_put])]
          generalize (if z.cps.toList[h + 1]? = some 93 then some (P.tup [], h + 1 + 1) else loopV z.cps.toList (val z.cps.toList d) (z.cps.toList.length + 1) (h + 1) []) = o at pa
          cases o with
          | none =>
            obtain ⟨h', pa⟩ := pa
            refine ⟨h', exc [some (.ref 1), some (.p (.int ((d + 1 : Nat) : Int))), some (.p (.str (sg 91)))] h' ?_⟩
            rw [go]
            refine x_exc ?_
            simp only [bind_ok, lft_ok, ofO_some, q_var, q_lit, q_glo, q_bin, q_cmp, q_idx, q_bif, q_call, q_nil, q_cons, q_val, q_tand, q_tor, q_tnot, q_ifs, q_set, q_snil, q_scons, q_gn, q_not, q_and', q_tup, q_lst, q_isi, q_ife, q_slc, q_onon, q_osom, q_yes, q_iex, q_ir1, q_att, q_ret, rd, rds, pures, q_mth, cls_pa, has_pa, pa, lft_ex, Option.bind, Option.map, List.getElem?_cons_zero, List.getElem?_cons_succ, if_true]
          | some o =>
            obtain ⟨p, e⟩ := o
            have pa : _ = _ := pa
            refine ret p e ?_
            rw [go]
            refine x_ret ?_
            simp only [bind_ok, lft_ok, ofO_some, q_var, q_lit, q_glo, q_bin, q_cmp, q_idx, q_bif, q_call, q_nil, q_cons, q_val, q_tand, q_tor, q_tnot, q_ifs, q_set, q_snil, q_scons, q_gn, q_not, q_and', q_tup, q_lst, q_isi, q_ife, q_slc, q_onon, q_osom, q_yes, q_iex, q_ir1, q_att, q_ret, rd, rds, pures, q_mth, cls_pa, has_pa, pa, Option.bind, Option.map, List.getElem?_cons_zero, List.getElem?_cons_succ, if_true]
/-- value, at every depth -/
theorem value : ∀ (d n : Nat), VOk (n + 4 + 2 * d) d z := by
  have hz : z.length ≤ 100000 := by omega
  have hl := slen_toList z
  intro d
  induction d with
  | zero => exact fun n => valueB hz9 (N := n) (fun e => nomatch e)
  | succ d ih =>
    intro n
    rw [show n + 4 + 2 * (d + 1) = n + 2 * d + 2 + 4 from by omega]
    refine valueB hz9 (N := n + 2 * d + 2) fun {d'} e => ?_
    cases e
    have := ih n
    rw [show n + 4 + 2 * d = n + 2 * d + 3 + 1 from by omega] at this
    exact this
end
end K51

set_option Elab.async false
set_option linter.all false
set_option maxRecDepth 100000
set_option autoImplicit false
namespace K51
open MP PySem
/-! read_value and what is told -/
theorem mb_in : m_ValueReader____init__ = ⟨2, 2, b_ValueReader____init__, false⟩ := by kernel_rfl
theorem lk_in : mets.lookup (("ValueReader" : Str), ("__init__" : Str)) = some m_ValueReader____init__ := by kernel_rfl
theorem mb_rv : m_read_value = ⟨1, 3, b_read_value, false⟩ := by kernel_rfl
theorem lk_rv : fns.lookup ("read_value" : Str) = some m_read_value := by kernel_rfl
section
variable {q : List P} {z : Str}
theorem init (n : Nat) : (calls T (n + 2)).ini "ValueReader" [.ref 1, .p (.str z)] [.lst q, .ins "ValueReader" []] = .ok (.p .non) (Sx q z 0 []) := by
  show (calls T (n + 1)).met "ValueReader" "__init__" [.ref 1, .p (.str z)] [.lst q, .ins "ValueReader" []] = _
  rw [met_run lk_in, mb_in]
  have ex : exss (calls T n) b_ValueReader____init__ (startL ⟨2, 2, b_ValueReader____init__, false⟩ [.ref 1, .p (.str z)]) [.lst q, .ins "ValueReader" []] = some (.nx [some (.ref 1), some (.p (.str z))], Sx q z 0 []) := by
    have hta : ¬ (Str.ofString "text" = Str.ofString "at") := by decide +kernel
    simp [b_ValueReader____init__, startL, bind_ok, lft_ok, ofO_some, q_var, q_lit, q_glo, q_bin, q_cmp, q_idx, q_bif, q_call, q_nil, q_cons, q_val, q_tand, q_tor, q_tnot, q_ifs, q_set, q_snil, q_scons, q_gn, q_not, q_and', q_tup, q_lst, q_isi, q_ife, q_slc, q_onon, q_osom, q_yes, q_iex, q_ir1, q_att, q_ret, rd, rds, pures, q_fset, putF, setF, Sx, rdr, hta]
  exact run_nx rfl ex rfl
/-- what read_value does -/
def readV (z : Str) : Option P := match val z.cps.toList 320 0 with
  | some (p, e) => if e < z.length then none else some p
  | none => none
theorem read_value (n : Nat) (hz9 : z.length ≤ 99999) : (calls T (n + 646)).fn "read_value" [.p (.str z)] [.lst q] = (match readV z with
    | some p => .ok (.p p) [.lst q]
    | none => .ex bad [.lst q]) := by
  have hz : z.length ≤ 100000 := by omega
  rw [fn_run (n := n + 645) lk_rv, mb_rv]
  have hv := value (z := z) hz9 320 (n + 1) q [] 0 (by omega)
  have hL : startL ⟨1, 3, b_read_value, false⟩ [.p (.str z)] = [some (.p (.str z)), none, none] := rfl
  have c1 : ¬ (200000 : Int) < (z.length : Int) := by omega
  have ini := init (q := q) (z := z) (n + 643)
  have h1 : exs (calls T (n + 645)) (.ifs (.val (.cmp .gt (.bif .len (.cons (.var 0) .nil)) (.glo "MOST_SIGNS" (.int (200000))))) (.cons (.raise "BadText" (.var 0)) .nil) .nil) [some (.p (.str z)), none, none] [.lst q] = some (.nx [some (.p (.str z)), none, none], [.lst q]) :=
    x_ifnx (S' := [.lst q]) (by simp only [bind_ok, lft_ok, ofO_some, q_var, q_lit, q_glo, q_bin, q_cmp, q_idx, q_bif, q_call, q_nil, q_cons, q_val, q_tand, q_tor, q_tnot, q_ifs, q_set, q_snil, q_scons, q_gn, q_not, q_and', q_tup, q_lst, q_isi, q_ife, q_slc, q_onon, q_osom, q_yes, q_iex, q_ir1, q_att, q_ret, rd, rds, pures, len_str hz, cop_gt, decide_eq_false c1, truth, Option.bind, Option.map, List.getElem?_cons_zero])
  have h2 : exs (calls T (n + 645)) (.set (.g (.name 1)) (.mk "ValueReader" (.cons (.var 0) .nil))) [some (.p (.str z)), none, none] [.lst q] = some (.nx [some (.p (.str z)), some (.ref 1), none], Sx q z 0 []) := by
    simp [bind_ok, lft_ok, ofO_some, q_var, q_lit, q_glo, q_bin, q_cmp, q_idx, q_bif, q_call, q_nil, q_cons, q_val, q_tand, q_tor, q_tnot, q_ifs, q_set, q_snil, q_scons, q_gn, q_not, q_and', q_tup, q_lst, q_isi, q_ife, q_slc, q_onon, q_osom, q_yes, q_iex, q_ir1, q_att, q_ret, rd, rds, pures, q_mk, ini]
  have first : ∀ r, exss (calls T (n + 645)) (.cons (.ifs (.val (.cmp .gt (.bif .len (.cons (.var 0) .nil)) (.glo "MOST_SIGNS" (.int (200000))))) (.cons (.raise "BadText" (.var 0)) .nil) .nil) (.cons (.set (.g (.name 1)) (.mk "ValueReader" (.cons (.var 0) .nil))) r)) [some (.p (.str z)), none, none] [.lst q] =
      exss (calls T (n + 645)) r [some (.p (.str z)), some (.ref 1), none] (Sx q z 0 []) := fun r => (x_nx h1).trans (x_nx h2)
  have tr : ∀ e, trimS ([Ob.lst q] : MP.Sto).length (Sx q z e []) = some [Ob.lst q] := fun e => rfl
  unfold readV
  cases hc : val z.cps.toList 320 0 with
  | none =>
    rw [hc] at hv
    obtain ⟨h', hv⟩ := hv
    rw [show n + 1 + 4 + 2 * 320 = n + 645 from by omega] at hv
    have hv : (calls T (n + 645)).met "ValueReader" "value" [.ref 1, .p (.int 320)] (Sx q z 0 []) = .ex bad (Sx q z h' []) := hv
    refine run_exc (f := ⟨1, 3, b_read_value, false⟩) (L := [some (.p (.str z)), some (.ref 1), none]) (S' := Sx q z h' []) rfl (hL ▸ ?_) (tr h')
    refine (first _).trans (x_exc ?_)
    simp only [bind_ok, lft_ok, ofO_some, q_var, q_lit, q_glo, q_bin, q_cmp, q_idx, q_bif, q_call, q_nil, q_cons, q_val, q_tand, q_tor, q_tnot, q_ifs, q_set, q_snil, q_scons, q_gn, q_not, q_and', q_tup, q_lst, q_isi, q_ife, q_slc, q_onon, q_osom, q_yes, q_iex, q_ir1, q_att, q_ret, rd, rds, pures, q_mth, cls_va, has_va, hv, lft_ex, Option.bind, Option.map, List.getElem?_cons_zero, List.getElem?_cons_succ, if_true]
  | some o =>
    obtain ⟨p, e⟩ := o
    rw [hc] at hv
    rw [show n + 1 + 4 + 2 * 320 = n + 645 from by omega] at hv
    have hv : (calls T (n + 645)).met "ValueReader" "value" [.ref 1, .p (.int 320)] (Sx q z 0 []) = .ok (.p p) (Sx q z e []) := hv
    have h3 : exs (calls T (n + 645)) (.set (.g (.name 2)) (.mth (.var 1) "value" (.cons (.glo "DEEPEST" (.int (320))) .nil))) [some (.p (.str z)), some (.ref 1), none] (Sx q z 0 []) = some (.nx [some (.p (.str z)), some (.ref 1), some (.p p)], Sx q z e []) := by
      simp [bind_ok, lft_ok, ofO_some, q_var, q_lit, q_glo, q_bin, q_cmp, q_idx, q_bif, q_call, q_nil, q_cons, q_val, q_tand, q_tor, q_tnot, q_ifs, q_set, q_snil, q_scons, q_gn, q_not, q_and', q_tup, q_lst, q_isi, q_ife, q_slc, q_onon, q_osom, q_yes, q_iex, q_ir1, q_att, q_ret, rd, rds, pures, q_mth, cls_va, has_va, hv]
    dsimp only
    by_cases hlt : e < z.length
    · rw [if_pos hlt]
      have hlt' : (e : Int) < (z.length : Int) := by omega
      refine run_exc (f := ⟨1, 3, b_read_value, false⟩) (L := [some (.p (.str z)), some (.ref 1), some (.p p)]) (S' := Sx q z e []) rfl (hL ▸ ?_) (tr e)
      refine ((first _).trans (x_nx h3)).trans (x_exc ?_)
      rw [x_ift (S' := Sx q z e []) (by simp only [bind_ok, lft_ok, ofO_some, q_var, q_lit, q_glo, q_bin, q_cmp, q_idx, q_bif, q_call, q_nil, q_cons, q_val, q_tand, q_tor, q_tnot, q_ifs, q_set, q_snil, q_scons, q_gn, q_not, q_and', q_tup, q_lst, q_isi, q_ife, q_slc, q_onon, q_osom, q_yes, q_iex, q_ir1, q_att, q_ret, rd, rds, pures, len_str hz, sx_at, cop_lt, decide_eq_true hlt', truth, Option.bind, Option.map, List.getElem?_cons_zero, List.getElem?_cons_succ])]
      simp [bind_ok, lft_ok, ofO_some, q_var, q_lit, q_glo, q_bin, q_cmp, q_idx, q_bif, q_call, q_nil, q_cons, q_val, q_tand, q_tor, q_tnot, q_ifs, q_set, q_snil, q_scons, q_gn, q_not, q_and', q_tup, q_lst, q_isi, q_ife, q_slc, q_onon, q_osom, q_yes, q_iex, q_ir1, q_att, q_ret, rd, rds, pures, q_raise, bad]
    · rw [if_neg hlt]
      have hlt' : ¬ (e : Int) < (z.length : Int) := by omega
      refine (run_ret (f := ⟨1, 3, b_read_value, false⟩) (w := .p p) (S' := Sx q z e []) rfl (hL ▸ ?_) (tr e)).trans rfl
      refine ((first _).trans (x_nx h3)).trans ?_
      rw [x_nx (x_ifnx (S' := Sx q z e []) (by simp only [bind_ok, lft_ok, ofO_some, q_var, q_lit, q_glo, q_bin, q_cmp, q_idx, q_bif, q_call, q_nil, q_cons, q_val, q_tand, q_tor, q_tnot, q_ifs, q_set, q_snil, q_scons, q_gn, q_not, q_and', q_tup, q_lst, q_isi, q_ife, q_slc, q_onon, q_osom, q_yes, q_iex, q_ir1, q_att, q_ret, rd, rds, pures, len_str hz, sx_at, cop_lt, decide_eq_false hlt', truth, Option.bind, Option.map, List.getElem?_cons_zero, List.getElem?_cons_succ]))]
      simp [bind_ok, lft_ok, ofO_some, q_var, q_lit, q_glo, q_bin, q_cmp, q_idx, q_bif, q_call, q_nil, q_cons, q_val, q_tand, q_tor, q_tnot, q_ifs, q_set, q_snil, q_scons, q_gn, q_not, q_and', q_tup, q_lst, q_isi, q_ife, q_slc, q_onon, q_osom, q_yes, q_iex, q_ir1, q_att, q_ret, rd, rds, pures]
theorem mb_told : m__law_told = ⟨1, 1, b__law_told, false⟩ := by kernel_rfl
theorem lk_told : fns.lookup ("_law_told" : Str) = some m__law_told := by kernel_rfl
theorem sub_bt (n : Nat) : (calls T n).sub ("BadText" : Str) ("BadText" : Str) = some true := by cases n <;> kernel_rfl
def oneV : Option P → P
  | some p => .lst [p]
  | none => .non
theorem told (n : Nat) (hz9 : z.length ≤ 99999) : (calls T (n + 647)).fn "_law_told" [.p (.str z)] [.lst q] = .ok (.p (oneV (readV z))) [.lst q] := by
  rw [fn_run (n := n + 646) lk_told, mb_told]
  have rv := read_value (q := q) n hz9
  have ex : exss (calls T (n + 646)) b__law_told (startL ⟨1, 1, b__law_told, false⟩ [.p (.str z)]) [.lst q] = some (.ret (.p (oneV (readV z))), [.lst q]) := by
    cases hr : readV z with
    | none =>
      rw [hr] at rv
      dsimp only at rv
      simp [b__law_told, startL, bind_ok, lft_ok, ofO_some, q_var, q_lit, q_glo, q_bin, q_cmp, q_idx, q_bif, q_call, q_nil, q_cons, q_val, q_tand, q_tor, q_tnot, q_ifs, q_set, q_snil, q_scons, q_gn, q_not, q_and', q_tup, q_lst, q_isi, q_ife, q_slc, q_onon, q_osom, q_yes, q_iex, q_ir1, q_att, q_ret, rd, rds, pures, q_tryR, rv, lft_ex, bind_ex, bad, sub_bt, oneV]
    | some p =>
      rw [hr] at rv
      dsimp only at rv
      simp [b__law_told, startL, bind_ok, lft_ok, ofO_some, q_var, q_lit, q_glo, q_bin, q_cmp, q_idx, q_bif, q_call, q_nil, q_cons, q_val, q_tand, q_tor, q_tnot, q_ifs, q_set, q_snil, q_scons, q_gn, q_not, q_and', q_tup, q_lst, q_isi, q_ife, q_slc, q_onon, q_osom, q_yes, q_iex, q_ir1, q_att, q_ret, rd, rds, pures, q_tryR, rv, cut1, oneV]
  exact (run_ret rfl ex rfl).trans rfl
theorem mb_vo : m__law_value_of = ⟨1, 2, b__law_value_of, false⟩ := by kernel_rfl
theorem lk_vo : fns.lookup ("_law_value_of" : Str) = some m__law_value_of := by kernel_rfl
theorem value_of (n : Nat) (hz9 : z.length ≤ 99999) : (calls T (n + 323)).fn "_law_value_of" [.p (.str z)] [.lst q] = .ok (.p (oneV (readV z))) [.lst q] := by
  have hz : z.length ≤ 100000 := by omega
  have hl := slen_toList z
  rw [fn_run (n := n + 322) lk_vo, mb_vo]
  have tk := taken (S := [Ob.lst q]) rfl n hz9 320 320 0 rfl (by omega)
  rw [show n + 2 + 320 = n + 322 from by omega] at tk
  have tk : (calls T (n + 322)).fn "_law_taken" [.p (.str z), .p (.int 0), .p (.int 320)] [.lst q] = .ok (.p (encV (val z.cps.toList 320 0))) [.lst q] := tk
  have ex : exss (calls T (n + 322)) b__law_value_of (startL ⟨1, 2, b__law_value_of, false⟩ [.p (.str z)]) [.lst q] = some (.ret (.p (oneV (readV z))), [.lst q]) := by
    unfold readV
    have cin : ∀ p, cop .isnot p .non = some (!isNon p) := fun p => by cases p <;> rfl
    cases hc : val z.cps.toList 320 0 with
    | none =>
      rw [hc] at tk
      simp [b__law_value_of, startL, bind_ok, lft_ok, ofO_some, q_var, q_lit, q_glo, q_bin, q_cmp, q_idx, q_bif, q_call, q_nil, q_cons, q_val, q_tand, q_tor, q_tnot, q_ifs, q_set, q_snil, q_scons, q_gn, q_not, q_and', q_tup, q_lst, q_isi, q_ife, q_slc, q_onon, q_osom, q_yes, q_iex, q_ir1, q_att, q_ret, rd, rds, pures, tk, encV, cin, isNon, truth, oneV]
    | some o =>
      obtain ⟨p, e⟩ := o
      rw [hc] at tk
      have he := val_end hc
      have i0 : pidx (.tup [p, .int (e : Int)]) (.int 0) = some p := rfl
      have i1 : pidx (.tup [p, .int (e : Int)]) (.int 1) = some (.int (e : Int)) := rfl
      dsimp only
      by_cases hlt : e < z.length
      · rw [if_pos hlt]
        have hne : ¬ (e : Int) = (z.length : Int) := by omega
        simp [b__law_value_of, startL, bind_ok, lft_ok, ofO_some, q_var, q_lit, q_glo, q_bin, q_cmp, q_idx, q_bif, q_call, q_nil, q_cons, q_val, q_tand, q_tor, q_tnot, q_ifs, q_set, q_snil, q_scons, q_gn, q_not, q_and', q_tup, q_lst, q_isi, q_ife, q_slc, q_onon, q_osom, q_yes, q_iex, q_ir1, q_att, q_ret, rd, rds, pures, tk, encV, cin, isNon, truth, i0, i1, len_str hz, cop_eqi, oneV, hne]
      · rw [if_neg hlt]
        have hne : (e : Int) = (z.length : Int) := by omega
        simp [b__law_value_of, startL, bind_ok, lft_ok, ofO_some, q_var, q_lit, q_glo, q_bin, q_cmp, q_idx, q_bif, q_call, q_nil, q_cons, q_val, q_tand, q_tor, q_tnot, q_ifs, q_set, q_snil, q_scons, q_gn, q_not, q_and', q_tup, q_lst, q_isi, q_ife, q_slc, q_onon, q_osom, q_yes, q_iex, q_ir1, q_att, q_ret, rd, rds, pures, tk, encV, cin, isNon, truth, i0, i1, len_str hz, cop_eqi, decide_eq_true hne, cut1, oneV]
  exact (run_ret rfl ex rfl).trans rfl
end
end K51

set_option Elab.async false
set_option linter.all false
set_option maxRecDepth 100000
set_option autoImplicit false
namespace K51
open MP PySem
/-! _law_same of equal data -/
inductive Sm : Nat → P → Prop
  | non {d : Nat} : Sm d .non
  | int {d : Nat} (i : Int) : Sm d (.int i)
  | str {d : Nat} (x : Str) : Sm d (.str x)
  | tup {d : Nat} {l : List P} : (∀ x ∈ l, Sm d x) → l.length ≤ 100000 → Sm (d + 1) (.tup l)
  | lst {d : Nat} {l : List P} : (∀ x ∈ l, Sm d x) → l.length ≤ 100000 → Sm (d + 1) (.lst l)
theorem mb_same : m__law_same = ⟨2, 3, b__law_same, false⟩ := by kernel_rfl
theorem lk_same : fns.lookup ("_law_same" : Str) = some m__law_same := by kernel_rfl
theorem bool_ne (a b : Bool) : cop .ne (.bl a) (.bl b) = some (!(a == b)) := rfl
theorem same_row {S : MP.Sto} (hS : trimS S.length S = some S) (N : Nat) {p : P} {l : List P} (hp : p = .tup l ∨ p = .lst l) (hl : l.length ≤ 100000) (h : ∀ x ∈ l, (calls T N).fn "_law_same" [.p x, .p x] S = .ok (.p (.bl true)) S) :
    exss (calls T N) b__law_same [some (.p p), some (.p p), none] S = some (.ret (.p (.bl true)), S) := by
  have len : bfn .len [p] = some (.int l.length) := by rcases hp with rfl | rfl <;> rfl
  have isT1 : isT .tuple p = true ∨ (isT .tuple p = false ∧ isT .list p = true) := by
    rcases hp with rfl | rfl
    · exact .inl rfl
    · exact .inr ⟨rfl, rfl⟩
  have idx : ∀ k : Nat, ∀ x, l[k]? = some x → pidx p (.int (k : Int)) = some x := fun k x hk => by
    have e : L2.atI l (k : Int) = some x := by
      obtain ⟨hk', e⟩ := List.getElem?_eq_some_iff.mp hk
      unfold L2.atI L2.ixN
      simp [hk', e]
    rcases hp with rfl | rfl <;> exact e
  have comp : compF (turnF (calls T N) [some (.p p), some (.p p), none] [2] (.name 2) (.not (.val (.call "_law_same" (.cons (.idx (.var 0) (.var 2)) (.cons (.idx (.var 1) (.var 2)) .nil))))) (.var 2)) (rangeP 0 (l.length : Int).toNat) [] S = .ok [] S := by
    refine (comp_pure (fun _ => none) (rangeP 0 (l.length : Int).toNat) [] (fun x hx => ?_) (by rw [range_len]; exact small (by simp; omega))).trans (by simp)
    obtain ⟨k, rfl, k0, k1⟩ := range_mem hx
    obtain ⟨k, rfl⟩ := Int.eq_ofNat_of_zero_le k0
    have hk : k < l.length := by omega
    have i := idx k l[k] (List.getElem?_eq_getElem hk)
    have hs := h l[k] (List.getElem_mem hk)
    simp [turnF, wipe, bindT, bind_ok, lft_ok, ofO_some, q_var, q_lit, q_glo, q_bin, q_cmp, q_idx, q_bif, q_call, q_nil, q_cons, q_val, q_tand, q_tor, q_tnot, q_ifs, q_set, q_snil, q_scons, q_gn, q_not, q_and', q_tup, q_lst, q_isi, q_ife, q_slc, q_onon, q_osom, q_yes, q_iex, q_ir1, q_att, q_ret, rd, rds, pures, i, hs, truth]
  rw [Int.toNat_natCast] at comp
  have hr : inR (l.length : Int) = true := inR_ok (by omega) (by omega)
  have l0 : bfn .len [.lst ([] : List P)] = some (.int 0) := rfl
  have cne : cop .ne (.int (l.length : Int)) (.int (l.length : Int)) = some false := by
    show some (!((l.length : Int) == (l.length : Int))) = _
    simp
  have e1 : evI (calls T N) (.r1 (.bif .len (.cons (.var 1) .nil))) [some (.p p), some (.p p), none] S = .ok (rangeP 0 l.length) S := by
    have e0 : ev (calls T N) (.bif .len (.cons (.var 1) .nil)) [some (.p p), some (.p p), none] S = .ok (.p (.int (l.length : Int))) S := by simp [bind_ok, lft_ok, ofO_some, q_var, q_lit, q_glo, q_bin, q_cmp, q_idx, q_bif, q_call, q_nil, q_cons, q_val, q_tand, q_tor, q_tnot, q_ifs, q_set, q_snil, q_scons, q_gn, q_not, q_and', q_tup, q_lst, q_isi, q_ife, q_slc, q_onon, q_osom, q_yes, q_iex, q_ir1, q_att, q_ret, rd, rds, pures, len]
    have e9 := ev_r1 e0 hr
    rwa [Int.toNat_natCast] at e9
  have e2 : ev (calls T N) (.comp [2] (.name 2) (.r1 (.bif .len (.cons (.var 1) .nil))) (.not (.val (.call "_law_same" (.cons (.idx (.var 0) (.var 2)) (.cons (.idx (.var 1) (.var 2)) .nil))))) (.var 2)) [some (.p p), some (.p p), none] S = .ok (.p (.lst [])) S := by
    rw [q_comp', e1, bind_ok, comp]; rfl
  have e3 : exs (calls T N) (.ret (.cmp .eq (.bif .len (.cons (.comp [2] (.name 2) (.r1 (.bif .len (.cons (.var 1) .nil))) (.not (.val (.call "_law_same" (.cons (.idx (.var 0) (.var 2)) (.cons (.idx (.var 1) (.var 2)) .nil))))) (.var 2)) .nil)) (.lit (.int (0))))) [some (.p p), some (.p p), none] S = some (.ret (.p (.bl true)), S) := by
    rw [q_ret, q_cmp, q_bif, q_cons, e2]; rfl
  rcases isT1 with t1 | ⟨t1, t2⟩
  · have t2 : isT .list p = false := by
      rcases hp with rfl | rfl
      · rfl
      · cases t1
    unfold b__law_same
    refine x_ret ?_
    rw [x_ift (S' := S) (by simp [bind_ok, lft_ok, ofO_some, q_var, q_lit, q_glo, q_bin, q_cmp, q_idx, q_bif, q_call, q_nil, q_cons, q_val, q_tand, q_tor, q_tnot, q_ifs, q_set, q_snil, q_scons, q_gn, q_not, q_and', q_tup, q_lst, q_isi, q_ife, q_slc, q_onon, q_osom, q_yes, q_iex, q_ir1, q_att, q_ret, rd, rds, pures, t1, truth]), x_nx (x_ifnx (S' := S) (by simp [bind_ok, lft_ok, ofO_some, q_var, q_lit, q_glo, q_bin, q_cmp, q_idx, q_bif, q_call, q_nil, q_cons, q_val, q_tand, q_tor, q_tnot, q_ifs, q_set, q_snil, q_scons, q_gn, q_not, q_and', q_tup, q_lst, q_isi, q_ife, q_slc, q_onon, q_osom, q_yes, q_iex, q_ir1, q_att, q_ret, rd, rds, pures, t1, t2, bool_ne, len, cne, truth]))]
    exact x_ret e3
  · unfold b__law_same
    refine x_ret ?_
    rw [x_ift (S' := S) (by simp [bind_ok, lft_ok, ofO_some, q_var, q_lit, q_glo, q_bin, q_cmp, q_idx, q_bif, q_call, q_nil, q_cons, q_val, q_tand, q_tor, q_tnot, q_ifs, q_set, q_snil, q_scons, q_gn, q_not, q_and', q_tup, q_lst, q_isi, q_ife, q_slc, q_onon, q_osom, q_yes, q_iex, q_ir1, q_att, q_ret, rd, rds, pures, t1, t2, truth]), x_nx (x_ifnx (S' := S) (by simp [bind_ok, lft_ok, ofO_some, q_var, q_lit, q_glo, q_bin, q_cmp, q_idx, q_bif, q_call, q_nil, q_cons, q_val, q_tand, q_tor, q_tnot, q_ifs, q_set, q_snil, q_scons, q_gn, q_not, q_and', q_tup, q_lst, q_isi, q_ife, q_slc, q_onon, q_osom, q_yes, q_iex, q_ir1, q_att, q_ret, rd, rds, pures, t1, t2, bool_ne, len, cne, truth]))]
    exact x_ret e3
theorem same {S : MP.Sto} (hS : trimS S.length S = some S) : ∀ {d : Nat} {p : P}, Sm d p → ∀ n : Nat, (calls T (n + 1 + d)).fn "_law_same" [.p p, .p p] S = .ok (.p (.bl true)) S := by
  intro d p h
  have hL : ∀ p : P, startL ⟨2, 3, b__law_same, false⟩ [.p p, .p p] = [some (.p p), some (.p p), none] := fun _ => rfl
  have go : ∀ (p : P) (N : Nat), exss (calls T N) b__law_same [some (.p p), some (.p p), none] S = some (.ret (.p (.bl true)), S) → (calls T (N + 1)).fn "_law_same" [.p p, .p p] S = .ok (.p (.bl true)) S := fun p N ex => by
    rw [fn_run lk_same, mb_same]
    exact (run_ret rfl (hL p ▸ ex) hS).trans rfl
  induction h with
  | @non d =>
    intro n
    rw [show n + 1 + d = n + d + 1 from by omega]
    refine go _ _ ?_
    unfold b__law_same
    rw [x_nx (x_ifnx (S' := S) (by simp [bind_ok, lft_ok, ofO_some, q_var, q_lit, q_glo, q_bin, q_cmp, q_idx, q_bif, q_call, q_nil, q_cons, q_val, q_tand, q_tor, q_tnot, q_ifs, q_set, q_snil, q_scons, q_gn, q_not, q_and', q_tup, q_lst, q_isi, q_ife, q_slc, q_onon, q_osom, q_yes, q_iex, q_ir1, q_att, q_ret, rd, rds, pures, isT, truth]))]
    refine x_ret ?_
    rw [x_ift (S' := S) (by simp [bind_ok, lft_ok, ofO_some, q_var, q_lit, q_glo, q_bin, q_cmp, q_idx, q_bif, q_call, q_nil, q_cons, q_val, q_tand, q_tor, q_tnot, q_ifs, q_set, q_snil, q_scons, q_gn, q_not, q_and', q_tup, q_lst, q_isi, q_ife, q_slc, q_onon, q_osom, q_yes, q_iex, q_ir1, q_att, q_ret, rd, rds, pures, cop_isn, isNon, truth])]
    simp [bind_ok, lft_ok, ofO_some, q_var, q_lit, q_glo, q_bin, q_cmp, q_idx, q_bif, q_call, q_nil, q_cons, q_val, q_tand, q_tor, q_tnot, q_ifs, q_set, q_snil, q_scons, q_gn, q_not, q_and', q_tup, q_lst, q_isi, q_ife, q_slc, q_onon, q_osom, q_yes, q_iex, q_ir1, q_att, q_ret, rd, rds, pures, cop_isn, isNon]
  | @int d i =>
    intro n
    rw [show n + 1 + d = n + d + 1 from by omega]
    refine go _ _ ?_
    unfold b__law_same
    rw [x_nx (x_ifnx (S' := S) (by simp [bind_ok, lft_ok, ofO_some, q_var, q_lit, q_glo, q_bin, q_cmp, q_idx, q_bif, q_call, q_nil, q_cons, q_val, q_tand, q_tor, q_tnot, q_ifs, q_set, q_snil, q_scons, q_gn, q_not, q_and', q_tup, q_lst, q_isi, q_ife, q_slc, q_onon, q_osom, q_yes, q_iex, q_ir1, q_att, q_ret, rd, rds, pures, isT, truth])), x_nx (x_ifnx (S' := S) (by simp [bind_ok, lft_ok, ofO_some, q_var, q_lit, q_glo, q_bin, q_cmp, q_idx, q_bif, q_call, q_nil, q_cons, q_val, q_tand, q_tor, q_tnot, q_ifs, q_set, q_snil, q_scons, q_gn, q_not, q_and', q_tup, q_lst, q_isi, q_ife, q_slc, q_onon, q_osom, q_yes, q_iex, q_ir1, q_att, q_ret, rd, rds, pures, cop_isn, isNon, truth])), x_nx (x_ifnx (S' := S) (by simp [bind_ok, lft_ok, ofO_some, q_var, q_lit, q_glo, q_bin, q_cmp, q_idx, q_bif, q_call, q_nil, q_cons, q_val, q_tand, q_tor, q_tnot, q_ifs, q_set, q_snil, q_scons, q_gn, q_not, q_and', q_tup, q_lst, q_isi, q_ife, q_slc, q_onon, q_osom, q_yes, q_iex, q_ir1, q_att, q_ret, rd, rds, pures, isT, truth]))]
    refine x_ret ?_
    rw [x_ift (S' := S) (by simp [bind_ok, lft_ok, ofO_some, q_var, q_lit, q_glo, q_bin, q_cmp, q_idx, q_bif, q_call, q_nil, q_cons, q_val, q_tand, q_tor, q_tnot, q_ifs, q_set, q_snil, q_scons, q_gn, q_not, q_and', q_tup, q_lst, q_isi, q_ife, q_slc, q_onon, q_osom, q_yes, q_iex, q_ir1, q_att, q_ret, rd, rds, pures, isT, truth])]
    simp [bind_ok, lft_ok, ofO_some, q_var, q_lit, q_glo, q_bin, q_cmp, q_idx, q_bif, q_call, q_nil, q_cons, q_val, q_tand, q_tor, q_tnot, q_ifs, q_set, q_snil, q_scons, q_gn, q_not, q_and', q_tup, q_lst, q_isi, q_ife, q_slc, q_onon, q_osom, q_yes, q_iex, q_ir1, q_att, q_ret, rd, rds, pures, isT, truth, cop_eqi]
  | @str d x =>
    intro n
    rw [show n + 1 + d = n + d + 1 from by omega]
    refine go _ _ ?_
    unfold b__law_same
    rw [x_nx (x_ifnx (S' := S) (by simp [bind_ok, lft_ok, ofO_some, q_var, q_lit, q_glo, q_bin, q_cmp, q_idx, q_bif, q_call, q_nil, q_cons, q_val, q_tand, q_tor, q_tnot, q_ifs, q_set, q_snil, q_scons, q_gn, q_not, q_and', q_tup, q_lst, q_isi, q_ife, q_slc, q_onon, q_osom, q_yes, q_iex, q_ir1, q_att, q_ret, rd, rds, pures, isT, truth])), x_nx (x_ifnx (S' := S) (by simp [bind_ok, lft_ok, ofO_some, q_var, q_lit, q_glo, q_bin, q_cmp, q_idx, q_bif, q_call, q_nil, q_cons, q_val, q_tand, q_tor, q_tnot, q_ifs, q_set, q_snil, q_scons, q_gn, q_not, q_and', q_tup, q_lst, q_isi, q_ife, q_slc, q_onon, q_osom, q_yes, q_iex, q_ir1, q_att, q_ret, rd, rds, pures, cop_isn, isNon, truth])), x_nx (x_ifnx (S' := S) (by simp [bind_ok, lft_ok, ofO_some, q_var, q_lit, q_glo, q_bin, q_cmp, q_idx, q_bif, q_call, q_nil, q_cons, q_val, q_tand, q_tor, q_tnot, q_ifs, q_set, q_snil, q_scons, q_gn, q_not, q_and', q_tup, q_lst, q_isi, q_ife, q_slc, q_onon, q_osom, q_yes, q_iex, q_ir1, q_att, q_ret, rd, rds, pures, isT, truth])), x_nx (x_ifnx (S' := S) (by simp [bind_ok, lft_ok, ofO_some, q_var, q_lit, q_glo, q_bin, q_cmp, q_idx, q_bif, q_call, q_nil, q_cons, q_val, q_tand, q_tor, q_tnot, q_ifs, q_set, q_snil, q_scons, q_gn, q_not, q_and', q_tup, q_lst, q_isi, q_ife, q_slc, q_onon, q_osom, q_yes, q_iex, q_ir1, q_att, q_ret, rd, rds, pures, isT, truth]))]
    refine x_ret ?_
    simp [bind_ok, lft_ok, ofO_some, q_var, q_lit, q_glo, q_bin, q_cmp, q_idx, q_bif, q_call, q_nil, q_cons, q_val, q_tand, q_tor, q_tnot, q_ifs, q_set, q_snil, q_scons, q_gn, q_not, q_and', q_tup, q_lst, q_isi, q_ife, q_slc, q_onon, q_osom, q_yes, q_iex, q_ir1, q_att, q_ret, rd, rds, pures, isT, truth, cop_eqs]
  | @tup d l hx hl ih =>
    intro n
    exact go _ _ (same_row hS (n + 1 + d) (.inl rfl) hl fun x m => ih x m n)
  | @lst d l hx hl ih =>
    intro n
    exact go _ _ (same_row hS (n + 1 + d) (.inr rfl) hl fun x m => ih x m n)
/-! the values of a text are such data -/
theorem sm_loopV {cs : List Nat} {d : Nat} {v : Nat → Option (P × Nat)} (hv : ∀ h p e, v h = some (p, e) → Sm d p ∧ h < e) (hcs : cs.length ≤ 99999) : ∀ (f h : Nat) (acc : List P) (p : P) (e : Nat), (∀ x ∈ acc, Sm d x) → acc.length ≤ h → h ≤ cs.length → (∀ h p e, v h = some (p, e) → e ≤ cs.length) → loopV cs v f h acc = some (p, e) → Sm (d + 1) p
  | 0, _, _, _, _, _, _, _, _, hq => nomatch hq
  | f + 1, h, acc, p, e, ha, hl, hh, he, hq => by
    unfold loopV at hq
    cases hr : v h with
    | none => rw [hr] at hq; cases hq
    | some r =>
      obtain ⟨r, e1⟩ := r
      obtain ⟨s1, g1⟩ := hv h r e1 hr
      have l1 := he h r e1 hr
      rw [hr] at hq
      dsimp only at hq
      have ha' : ∀ x ∈ acc ++ [r], Sm d x := fun x m => by
        rcases List.mem_append.mp m with c | c
        · exact ha x c
        · rw [List.mem_singleton.mp c]; exact s1
      by_cases c1 : cs[e1]? = some 93
      · rw [if_pos c1] at hq
        cases hq
        exact .tup ha' (by rw [List.length_append, List.length_cons, List.length_nil]; omega)
      · rw [if_neg c1] at hq
        by_cases c2 : cs[e1]? = some 32
        · rw [if_pos c2] at hq
          have := (List.getElem?_eq_some_iff.mp c2).1
          exact sm_loopV hv hcs f _ _ _ _ ha' (by rw [List.length_append, List.length_cons, List.length_nil]; omega) (by omega) he hq
        · rw [if_neg c2] at hq; cases hq
theorem sm_num {cs : List Nat} {h : Nat} {p : P} {e d : Nat} (hv : num cs h = some (p, e)) : Sm d p := by
  unfold num at hv
  split at hv
  · cases hv; exact .int _
  · cases hv
theorem sm_val {cs : List Nat} (hcs : cs.length ≤ 99999) : ∀ (d h : Nat) (p : P) (e : Nat), val cs d h = some (p, e) → Sm d p := by
  intro d
  induction d with
  | zero =>
    intro h p e hv
    rw [val_eq] at hv
    cases hc : cs[h]? with
    | none => rw [hc] at hv; cases hv
    | some c =>
      rw [hc] at hv
      dsimp only at hv
      by_cases h1 : isW c = true ∧ isD c = false
      · rw [if_pos h1] at hv; cases hv; exact .str _
      · rw [if_neg h1] at hv
        by_cases h2 : c ≠ 91
        · rw [if_pos h2] at hv; exact sm_num hv
        · rw [if_neg h2] at hv; cases hv
  | succ d ih =>
    intro h p e hv
    rw [val_eq] at hv
    cases hc : cs[h]? with
    | none => rw [hc] at hv; cases hv
    | some c =>
      have hlt := (List.getElem?_eq_some_iff.mp hc).1
      rw [hc] at hv
      dsimp only at hv
      by_cases h1 : isW c = true ∧ isD c = false
      · rw [if_pos h1] at hv; cases hv; exact .str _
      · rw [if_neg h1] at hv
        by_cases h2 : c ≠ 91
        · rw [if_pos h2] at hv; exact sm_num hv
        · rw [if_neg h2] at hv
          by_cases h3 : cs[h + 1]? = some 93
          · rw [if_pos h3] at hv; cases hv; exact .tup (by simp) (by simp)
          · rw [if_neg h3] at hv
            exact sm_loopV (fun h p e q => ⟨ih h p e q, val_gt q⟩) hcs _ _ _ _ _ (by simp) (by simp) (by omega) (fun h p e q => val_end q) hv
theorem sm_readV {z : Str} (hz9 : z.length ≤ 99999) : Sm 321 (oneV (readV z)) := by
  unfold readV
  cases hc : val z.cps.toList 320 0 with
  | none => exact .non
  | some o =>
    obtain ⟨p, e⟩ := o
    dsimp only
    split
    · exact .non
    · have := sm_val (by rw [slen_toList]; exact hz9) _ _ _ _ hc
      exact .lst (fun x m => by rw [List.mem_singleton.mp m]; exact this) (by simp)
end K51

set_option Elab.async false
set_option linter.all false
set_option maxRecDepth 100000
set_option autoImplicit false
namespace K51
open MP PySem
/-! _law_pool -/
theorem mb_pool : m__law_pool = ⟨1, 3, b__law_pool, true⟩ := by kernel_rfl
theorem lk_pool : fns.lookup ("_law_pool" : Str) = some m__law_pool := by kernel_rfl
theorem bop_mod {i j : Int} (h : 0 < j) : bop .mod (.int i) (.int j) = some (.int (i % j)) := if_pos h
theorem bfn_int (i : Int) : bfn .int [.int i] = some (.int i) := rfl
def IsScr (ns : List Int) (v : W) : Prop := v = .scr (ns.map P.int) ∨ v = .p (.lst (ns.map P.int))
theorem cutP_mem {l : List P} {lo hi : Option Int} {x : P} (h : x ∈ cutP l lo hi) : x ∈ l := by
  unfold cutP at h
  exact List.mem_of_mem_drop (List.mem_of_mem_take h)
theorem law_pool (n : Nat) {ns : List Int} {v : W} (hv : IsScr ns v) : ∃ S', Pool ns S' ∧ (calls T (n + 1)).fn "_law_pool" [v] [] = .ok (.ref 0) S' := by
  have hi : evI (calls T n) (.ex (.slc (.var 0) .non (.som (.lit (.int (63)))))) [some v, some (.p (.int 7)), none] [] = .ok (cutP (ns.map P.int) none (some 63)) [] := by
    rcases hv with rfl | rfl
    · simp [bind_ok, lft_ok, ofO_some, q_var, q_lit, q_glo, q_bin, q_cmp, q_idx, q_bif, q_call, q_nil, q_cons, q_val, q_tand, q_tor, q_tnot, q_ifs, q_set, q_snil, q_scons, q_gn, q_not, q_and', q_tup, q_lst, q_isi, q_ife, q_slc, q_onon, q_osom, q_yes, q_iex, q_ir1, q_att, q_ret, rd, rds, pures, walk]
    · simp [bind_ok, lft_ok, ofO_some, q_var, q_lit, q_glo, q_bin, q_cmp, q_idx, q_bif, q_call, q_nil, q_cons, q_val, q_tand, q_tor, q_tnot, q_ifs, q_set, q_snil, q_scons, q_gn, q_not, q_and', q_tup, q_lst, q_isi, q_ife, q_slc, q_onon, q_osom, q_yes, q_iex, q_ir1, q_att, q_ret, rd, rds, pures, walk, pslc]
  obtain ⟨L', S', e1, k, s, x2, hS, hL⟩ := for_inv (tg := .name 2) (b := exss (calls T n) (.cons (.set (.g (.name 1)) (.bin .mod (.bif .int (.cons (.bin .add (.bin .mul (.var 1) (.lit (.int (31)))) (.var 2)) .nil)) (.lit (.int (1000003))))) .nil))
    (fun k L S => ∃ (j : Nat) (s : Int) (x2 : Option W), S = [] ∧ (L = [some v, some (.p (.int s)), x2] ∧ 0 ≤ s ∧ s < 1000003)) (cutP (ns.map P.int) none (some 63)) 0 [some v, some (.p (.int 7)), none] []
    (fun j x L S hx hI => by
      obtain ⟨k, s, x2, rfl, rfl, h0, h1⟩ := hI
      obtain ⟨i, _, rfl⟩ := List.mem_map.mp (cutP_mem (List.mem_of_getElem? hx))
      have bm : bop .mul (.int s) (.int 31) = some (.int (s * 31)) := bop_mm ⟨by omega, by omega⟩
      have m0 := Int.emod_nonneg (s * 31 + i) (b := 1000003) (by decide)
      have m1 := Int.emod_lt_of_pos (s * 31 + i) (b := 1000003) (by decide)
      refine ⟨_, [some v, some (.p (.int ((s * 31 + i) % 1000003))), some (.p (.int i))], [], rfl, ?_, 0, (s * 31 + i) % 1000003, some (.p (.int i)), rfl, rfl, m0, m1⟩
      simp [bind_ok, lft_ok, ofO_some, q_var, q_lit, q_glo, q_bin, q_cmp, q_idx, q_bif, q_call, q_nil, q_cons, q_val, q_tand, q_tor, q_tnot, q_ifs, q_set, q_snil, q_scons, q_gn, q_not, q_and', q_tup, q_lst, q_isi, q_ife, q_slc, q_onon, q_osom, q_yes, q_iex, q_ir1, q_att, q_ret, rd, rds, pures, bm, bop_ii, bfn_int, bop_mod])
    ⟨0, 7, none, rfl, rfl, by decide, by decide⟩
  obtain ⟨hL, h0, h1⟩ := hL
  subst hS hL
  refine ⟨pool ns 0 0 0 s, ⟨0, 0, 0, s, by decide, rfl⟩, ?_⟩
  rw [fn_run lk_pool, mb_pool]
  have hl : ev (calls T n) (.lof (.var 0)) [some v, some (.p (.int s)), x2] [] = .ok (.p (.lst (ns.map P.int))) [] := by
    rcases hv with rfl | rfl
    · simp [q_lof, q_var, bind_ok, rdL, ofO_some]
    · simp [q_lof, q_var, bind_ok, rdL, rd, P.items?, ofO_some]
  have c5 : ∀ a b c d e : P, cut sizeLine [a, b, c, d, e] = some [a, b, c, d, e] := fun _ _ _ _ _ => cut_small (by simp)
  have ex : exss (calls T n) b__law_pool (startL ⟨1, 3, b__law_pool, true⟩ [v]) [] = some (.ret (.ref 0), pool ns 0 0 0 s) := by
    have hL : startL ⟨1, 3, b__law_pool, true⟩ [v] = [some v, none, none] := rfl
    rw [hL]
    unfold b__law_pool
    rw [x_nx (L' := [some v, some (.p (.int 7)), none]) (S' := []) (by simp [bind_ok, lft_ok, ofO_some, q_var, q_lit, q_glo, q_bin, q_cmp, q_idx, q_bif, q_call, q_nil, q_cons, q_val, q_tand, q_tor, q_tnot, q_ifs, q_set, q_snil, q_scons, q_gn, q_not, q_and', q_tup, q_lst, q_isi, q_ife, q_slc, q_onon, q_osom, q_yes, q_iex, q_ir1, q_att, q_ret, rd, rds, pures]),
      x_nx (L' := [some v, some (.p (.int s)), x2]) (S' := []) (by rw [q_for, hi, lft_ok]; exact e1)]
    refine x_ret ?_
    simp [bind_ok, lft_ok, ofO_some, q_var, q_lit, q_glo, q_bin, q_cmp, q_idx, q_bif, q_call, q_nil, q_cons, q_val, q_tand, q_tor, q_tnot, q_ifs, q_set, q_snil, q_scons, q_gn, q_not, q_and', q_tup, q_lst, q_isi, q_ife, q_slc, q_onon, q_osom, q_yes, q_iex, q_ir1, q_att, q_ret, rd, rds, pures, q_retL, hl, c5, pool]
  exact (run_ret rfl ex (T := []) rfl).trans rfl
/-! lists of texts -/
def lits : MEs → Option (List P)
  | .nil => some []
  | .cons (.lit q) r => (lits r).map (q :: ·)
  | _ => none
theorem lits_ev (C : MP.Cl) (L : MP.Loc) (S : MP.Sto) : ∀ {es : MEs} {l : List P}, lits es = some l → evs C es L S = .ok (l.map W.p) S ∧ pures S (l.map W.p) = some l
  | .nil, l, h => by cases h; exact ⟨rfl, rfl⟩
  | .cons e r, l, h => by
    cases e with
    | lit q =>
      obtain ⟨m, e1, rfl⟩ := Option.map_eq_some_iff.mp (show (lits r).map (q :: ·) = some l from h)
      obtain ⟨h1, h2⟩ := lits_ev C L S e1
      refine ⟨?_, ?_⟩
      · rw [q_cons, q_lit, bind_ok, h1, bind_ok]; rfl
      · show (pures S (m.map W.p)).map (q :: ·) = _
        rw [h2]; rfl
    | _ => cases h
theorem lits_lst (C : MP.Cl) (L : MP.Loc) (S : MP.Sto) {es : MEs} {l : List P} (h : lits es = some l) (hl : l.length ≤ 100000) : ev C (.lst es) L S = .ok (.p (.lst l)) S := by
  obtain ⟨h1, h2⟩ := lits_ev C L S h
  rw [q_lst, h1, bind_ok, h2, Option.bind_some, cut_small hl]
  rfl
def txts (l : List P) : Bool := l.all fun x => match x with
  | .str z => decide (z.length ≤ 5000)
  | _ => false
def Tr (m : Nat) (l : List P) : Prop := l.length ≤ m ∧ ∀ x ∈ l, ∃ z : Str, x = .str z ∧ z.length ≤ 5000
theorem tr_of {m : Nat} {l : List P} (h1 : l.length ≤ m) (h2 : txts l = true) : Tr m l := ⟨h1, fun x hx => by
  have := List.all_eq_true.mp h2 x hx
  cases x with
  | str z => exact ⟨z, rfl, of_decide_eq_true this⟩
  | _ => cases this⟩
theorem Tr.app {m k : Nat} {l r : List P} (h : Tr m l) (h' : Tr k r) : Tr (m + k) (l ++ r) := ⟨by rw [List.length_append]; exact Nat.add_le_add h.1 h'.1, fun x hx => (List.mem_append.mp hx).elim (h.2 x) (h'.2 x)⟩
theorem bop_lst {l m : List P} (h : l.length + m.length ≤ 100000) : bop .add (.lst l) (.lst m) = some (.lst (l ++ m)) := if_pos (small h)
end K51

set_option Elab.async false
set_option linter.all false
set_option maxRecDepth 100000
set_option autoImplicit false
namespace K51
open MP PySem
theorem mul_ok {x : Str} {n : Int} (h : x.length ≤ 16 ∧ 0 ≤ n ∧ n ≤ 1048576) : bop .mul (.str x) (.int n) = some (.str (Txt.mul x n)) := if_pos h
def l4 : List P := [.str (Txt.mul ("[" : Str) 320 ++ Txt.mul ("]" : Str) 320), .str (Txt.mul ("[" : Str) 321 ++ Txt.mul ("]" : Str) 321), .str (Txt.mul ("[" : Str) 500), .str (Txt.mul ("[" : Str) 319 ++ ("1" : Str) ++ Txt.mul ("]" : Str) 319)]
theorem fold_len (a : Array Nat) : ∀ (n : Nat) (acc : Array Nat), ((List.replicate n a).foldl (· ++ ·) acc).size = acc.size + n * a.size
  | 0, acc => by simp
  | n + 1, acc => by
    rw [List.replicate_succ, List.foldl_cons, fold_len a n, Array.size_append, Nat.succ_mul]
    omega
theorem mul_len (x : Str) (n : Int) (hx : x.length = 1) : (Txt.mul x n).length ≤ n.toNat := by
  unfold Txt.mul
  split
  · exact Nat.zero_le _
  · split
    · rw [hx]; omega
    · show ((List.replicate n.toNat x.cps).foldl (· ++ ·) #[]).size ≤ _
      rw [fold_len]
      have : x.cps.size = 1 := hx
      rw [this]
      simp
theorem l4_len (n : Int) : (Txt.mul ("[" : Str) n).length ≤ n.toNat ∧ (Txt.mul ("]" : Str) n).length ≤ n.toNat := ⟨mul_len _ _ (by decide +kernel), mul_len _ _ (by decide +kernel)⟩
theorem l4_tr : Tr 4 l4 := by
  have h1 := l4_len 320
  have h2 := l4_len 321
  have h3 := l4_len 500
  have h4 := l4_len 319
  have h5 : ("1" : Str).length = 1 := by decide +kernel
  refine ⟨by decide, fun x hx => ?_⟩
  simp only [l4, List.mem_cons, List.not_mem_nil, or_false] at hx
  rcases hx with rfl | rfl | rfl | rfl
  · exact ⟨_, rfl, by rw [slen]; omega⟩
  · exact ⟨_, rfl, by rw [slen]; omega⟩
  · exact ⟨_, rfl, by omega⟩
  · exact ⟨_, rfl, by rw [slen, slen]; omega⟩
theorem l4_ev (C : MP.Cl) (L : MP.Loc) (S : MP.Sto) : ev C (.lst (.cons (.bin .add (.bin .mul (.lit (.str "[")) (.lit (.int (320)))) (.bin .mul (.lit (.str "]")) (.lit (.int (320))))) (.cons (.bin .add (.bin .mul (.lit (.str "[")) (.lit (.int (321)))) (.bin .mul (.lit (.str "]")) (.lit (.int (321))))) (.cons (.bin .mul (.lit (.str "[")) (.lit (.int (500)))) (.cons (.bin .add (.bin .add (.bin .mul (.lit (.str "[")) (.lit (.int (319)))) (.lit (.str "1"))) (.bin .mul (.lit (.str "]")) (.lit (.int (319))))) .nil))))) L S = .ok (.p (.lst l4)) S := by
  have h1 := l4_len 320
  have h2 := l4_len 321
  have h4 := l4_len 319
  have h5 : ("1" : Str).length = 1 := by decide +kernel
  have a1 : (Txt.mul ("[" : Str) 320).length + (Txt.mul ("]" : Str) 320).length ≤ 100000 := by omega
  have a2 : (Txt.mul ("[" : Str) 321).length + (Txt.mul ("]" : Str) 321).length ≤ 100000 := by omega
  have a3 : (Txt.mul ("[" : Str) 319).length + ("1" : Str).length ≤ 100000 := by omega
  have a4 : (Txt.mul ("[" : Str) 319 ++ ("1" : Str)).length + (Txt.mul ("]" : Str) 319).length ≤ 100000 := by rw [slen]; omega
  have ml : ("[" : Str).length ≤ 16 := by decide +kernel
  have mr : ("]" : Str).length ≤ 16 := by decide +kernel
  have b1 := bop_str a1
  have b2 := bop_str a2
  have b3 := bop_str a3
  have b4 := bop_str a4
  have m1 := mul_ok (x := ("[" : Str)) (n := 320) ⟨ml, by decide, by decide⟩
  have m2 := mul_ok (x := ("]" : Str)) (n := 320) ⟨mr, by decide, by decide⟩
  have m3 := mul_ok (x := ("[" : Str)) (n := 321) ⟨ml, by decide, by decide⟩
  have m4 := mul_ok (x := ("]" : Str)) (n := 321) ⟨mr, by decide, by decide⟩
  have m5 := mul_ok (x := ("[" : Str)) (n := 500) ⟨ml, by decide, by decide⟩
  have m6 := mul_ok (x := ("[" : Str)) (n := 319) ⟨ml, by decide, by decide⟩
  have m7 := mul_ok (x := ("]" : Str)) (n := 319) ⟨mr, by decide, by decide⟩
  have c4 := cut4 (.str (Txt.mul ("[" : Str) 320 ++ Txt.mul ("]" : Str) 320)) (.str (Txt.mul ("[" : Str) 321 ++ Txt.mul ("]" : Str) 321)) (.str (Txt.mul ("[" : Str) 500)) (.str (Txt.mul ("[" : Str) 319 ++ ("1" : Str) ++ Txt.mul ("]" : Str) 319))
  simp only [bind_ok, lft_ok, ofO_some, q_var, q_lit, q_glo, q_bin, q_cmp, q_idx, q_bif, q_call, q_nil, q_cons, q_val, q_tand, q_tor, q_tnot, q_ifs, q_set, q_snil, q_scons, q_gn, q_not, q_and', q_tup, q_lst, q_isi, q_ife, q_slc, q_onon, q_osom, q_yes, q_iex, q_ir1, q_att, q_ret, rd, rds, pures, m1, m2, m3, m4, m5, m6, m7, b1, b2, b3, b4, c4, Option.bind_some, Option.map_some, l4]
theorem bin_ok {C : MP.Cl} {op : BOp} {a b : ME} {L : MP.Loc} {S S1 S2 : MP.Sto} {x y r : P} (ha : ev C a L S = .ok (.p x) S1) (hb : ev C b L S1 = .ok (.p y) S2) (hr : bop op x y = some r) : ev C (.bin op a b) L S = .ok (.p r) S2 := by
  rw [q_bin, ha, bind_ok, hb, bind_ok]
  simp only [rd, Option.bind_some, hr, Option.map_some, ofO_some]
theorem set_ok {C : MP.Cl} {i : Nat} {e : ME} {L : MP.Loc} {S S1 : MP.Sto} {w : W} (h : ev C e L S = .ok w S1) : exs C (.set (.g (.name i)) e) L S = some (.nx (L.set i (some w)), S1) := by
  rw [q_set, h, lft_ok, q_gn]
/-- the five texts made of one -/
def five (z : Str) : List P := [.str z, .str (z ++ ("]" : Str)), .str (("[" : Str) ++ z ++ ("]" : Str)), .str (z ++ (" 1" : Str)), .str (("[" : Str) ++ z ++ (" x]" : Str))]
theorem l1 : ("[" : Str).length = 1 := by decide +kernel
theorem l2 : ("]" : Str).length = 1 := by decide +kernel
theorem l3 : (" 1" : Str).length = 2 := by decide +kernel
theorem l5 : (" x]" : Str).length = 3 := by decide +kernel
theorem five_tr {z : Str} (hz : z.length ≤ 1000) : Tr 5 (five z) := by
  refine ⟨by simp [five], fun x hx => ?_⟩
  simp only [five, List.mem_cons, List.not_mem_nil, or_false] at hx
  have := l1; have := l2; have := l3; have := l5
  rcases hx with rfl | rfl | rfl | rfl | rfl
  · exact ⟨_, rfl, by omega⟩
  · exact ⟨_, rfl, by rw [slen]; omega⟩
  · exact ⟨_, rfl, by rw [slen, slen]; omega⟩
  · exact ⟨_, rfl, by rw [slen]; omega⟩
  · exact ⟨_, rfl, by rw [slen, slen]; omega⟩
theorem mb_law : m_law = ⟨1, 6, b_law, false⟩ := by kernel_rfl
section
variable {ns : List Int}
/-- one value's texts -/
theorem law_turn {v : W} {l : List P} {m : Nat} {S : MP.Sto} {k x4 x5 : Option W} (hl : Tr m l) (hm : m ≤ 1000) (hS : Pool ns S) :
    ∃ l' S' z, Tr (m + 9) l' ∧ Pool ns S' ∧ exss (calls T 688) (.cons (.set (.g (.name 4)) (.call "write_value" (.cons (.call "_law_pick" (.cons (.var 1) (.cons (.lst (.cons (.call "_law_machine" (.cons (.var 1) (.cons (.lit (.int (3))) .nil))) (.cons (.call "_law_fork" (.cons (.var 1) (.cons (.lit (.int (3))) .nil))) (.cons (.call "_law_pattern" (.cons (.var 1) (.cons (.lit (.int (3))) (.cons (.call "_law_plain_words" .nil) .nil)))) (.cons (.call "_law_chooser" (.cons (.var 1) (.cons (.lit (.int (2))) .nil))) .nil))))) .nil))) .nil)))
 (.cons (.set (.g (.name 2)) (.bin .add (.bin .add (.var 2) (.comp [5] (.name 5) (.r1 (.lit (.int (4)))) .yes (.call "_law_garbled" (.cons (.var 1) (.cons (.var 4) (.cons (.lit (.str "[]0 1-a_9")) .nil)))))) (.lst (.cons (.var 4) (.cons (.bin .add (.var 4) (.lit (.str "]"))) (.cons (.bin .add (.bin .add (.lit (.str "[")) (.var 4)) (.lit (.str "]"))) (.cons (.bin .add (.var 4) (.lit (.str " 1"))) (.cons (.bin .add (.bin .add (.lit (.str "[")) (.var 4)) (.lit (.str " x]"))) .nil))))))))
 .nil)) [some v, some (.ref 0), some (.p (.lst l)), k, x4, x5] S = some (.nx [some v, some (.ref 0), some (.p (.lst l')), k, some (.p (.str z)), x5], S') := by
  obtain ⟨p1, S1, h1, e1, o1⟩ := machine 684 hS (m := 3) (by decide) (by decide)
  obtain ⟨p2, S2, h2, e2, o2⟩ := fork 684 h1 (m := 3) (by decide) (by decide)
  have hw := plain_words (pool_trim h2 h2) 687
  obtain ⟨p3, S3, h3, e3, o3⟩ := pattern (l := ns) 681 3 3 S2 rfl (by decide) h2
  obtain ⟨p4, S4, h4, e4, o4⟩ := chooser 684 h3 (m := 2) (by decide) (by decide)
  obtain ⟨p, S5, hp, h5, e5⟩ := pick 685 h4 (q := [p1, p2, p3, p4]) (by simp) (by simp)
  have op : Okv 5 1000 p := by
    simp only [List.mem_cons, List.not_mem_nil, or_false] at hp
    rcases hp with rfl | rfl | rfl | rfl
    · exact o1.mono (by omega) (by omega)
    · exact o2.mono (by omega) (by omega)
    · exact o3.mono (by omega) (by show wPat 3 ≤ 1000; decide)
    · exact o4
  obtain ⟨z, hz, e6⟩ := write (pool_trim h5 h5) 682 5 1000 p op (by decide)
  have gl : (0 : Nat) < ("[]0 1-a_9" : Str).length ∧ ("[]0 1-a_9" : Str).length ≤ 1000 := by decide +kernel
  obtain ⟨gs, S6, e7, h6, hg, hgl⟩ := comp_pool (l := ns) (turn := turnF (calls T 688) [some v, some (.ref 0), some (.p (.lst l)), k, some (.p (.str z)), x5] [5] (.name 5) .yes (.call "_law_garbled" (.cons (.var 1) (.cons (.var 4) (.cons (.lit (.str "[]0 1-a_9")) .nil)))))
    (Pr := fun x => ∃ z : Str, x = .str z ∧ z.length ≤ 5000) (rangeP 0 (4 : Int).toNat) [] S5 h5 (fun x hx S hS => by
      obtain ⟨r, S', hr, hS', e⟩ := garbled 684 hS (z := z) (g := "[]0 1-a_9") (by omega) gl.1 gl.2
      refine ⟨some (.str r), S', ?_, hS', fun w hw => ?_⟩
      · obtain ⟨i, rfl, _, _⟩ := range_mem hx
        simp [turnF, wipe, bindT, bind_ok, lft_ok, ofO_some, q_var, q_lit, q_glo, q_bin, q_cmp, q_idx, q_bif, q_call, q_nil, q_cons, q_val, q_tand, q_tor, q_tnot, q_ifs, q_set, q_snil, q_scons, q_gn, q_not, q_and', q_tup, q_lst, q_isi, q_ife, q_slc, q_onon, q_osom, q_yes, q_iex, q_ir1, q_att, q_ret, rd, rds, pures, e]
      · cases hw; exact ⟨r, rfl, by omega⟩) (by rw [range_len]; exact small (by decide))
  rw [range_len] at hgl
  have hgl : gs.length ≤ 4 := hgl
  have hz5 : ((five z).length : Nat) = 5 := rfl
  have tg : Tr 4 gs := ⟨hgl, hg⟩
  refine ⟨l ++ gs ++ five z, S6, z, by have := (hl.app tg).app (five_tr hz); rwa [Nat.add_assoc] at this, h6, ?_⟩
  have hlm := hl.1
  have ba1 : bop .add (.lst l) (.lst gs) = some (.lst (l ++ gs)) := bop_lst (by omega)
  have ba2 : bop .add (.lst (l ++ gs)) (.lst (five z)) = some (.lst (l ++ gs ++ five z)) := bop_lst (by rw [List.length_append]; omega)
  have := l1; have := l2; have := l3; have := l5
  have s1 := bop_str (x := z) (y := ("]" : Str)) (by omega)
  have s2 := bop_str (x := ("[" : Str)) (y := z) (by omega)
  have s3 := bop_str (x := ("[" : Str) ++ z) (y := ("]" : Str)) (by rw [slen]; omega)
  have s4 := bop_str (x := z) (y := (" 1" : Str)) (by omega)
  have s5 := bop_str (x := ("[" : Str) ++ z) (y := (" x]" : Str)) (by rw [slen]; omega)
  have c4 := cut4 p1 p2 p3 p4
  have c5 : cut sizeLine (five z) = some (five z) := cut_small (by simp [five])
  unfold five at ba2 c5
  have e3' : (calls T 688).fn "_law_pattern" [.ref 0, .p (.int 3), .p (.lst words)] S2 = .ok (.p p3) S3 := e3
  have e6' : (calls T 688).fn "write_value" [.p p] S5 = .ok (.p (.str z)) S5 := e6
  rw [x_nx (L' := [some v, some (.ref 0), some (.p (.lst l)), k, some (.p (.str z)), x5]) (S' := S5) (by
    simp only [bind_ok, lft_ok, ofO_some, q_var, q_lit, q_glo, q_bin, q_cmp, q_idx, q_bif, q_call, q_nil, q_cons, q_val, q_tand, q_tor, q_tnot, q_ifs, q_set, q_snil, q_scons, q_gn, q_not, q_and', q_tup, q_lst, q_isi, q_ife, q_slc, q_onon, q_osom, q_yes, q_iex, q_ir1, q_att, q_ret, rd, rds, pures, e1, e2, hw, e3', e4, c4, e5, e6', Option.bind_some, Option.map_some, List.getElem?_cons_zero, List.getElem?_cons_succ, List.set_cons_zero, List.set_cons_succ])]
  refine x_nx ?_ |>.trans (q_snil _ _ _)
  have r4 : evI (calls T 688) (.r1 (.lit (.int (4)))) [some v, some (.ref 0), some (.p (.lst l)), k, some (.p (.str z)), x5] S5 = .ok (rangeP 0 (4 : Int).toNat) S5 := ev_r1 (q_lit _ _ _ _) (by decide +kernel)
  have ec : ev (calls T 688) (.comp [5] (.name 5) (.r1 (.lit (.int (4)))) .yes (.call "_law_garbled" (.cons (.var 1) (.cons (.var 4) (.cons (.lit (.str "[]0 1-a_9")) .nil))))) [some v, some (.ref 0), some (.p (.lst l)), k, some (.p (.str z)), x5] S5 = .ok (.p (.lst gs)) S6 := by
    rw [q_comp', r4, bind_ok, e7]; rfl
  have e5 : ev (calls T 688) (.lst (.cons (.var 4) (.cons (.bin .add (.var 4) (.lit (.str "]"))) (.cons (.bin .add (.bin .add (.lit (.str "[")) (.var 4)) (.lit (.str "]"))) (.cons (.bin .add (.var 4) (.lit (.str " 1"))) (.cons (.bin .add (.bin .add (.lit (.str "[")) (.var 4)) (.lit (.str " x]"))) .nil)))))) [some v, some (.ref 0), some (.p (.lst l)), k, some (.p (.str z)), x5] S6 = .ok (.p (.lst (five z))) S6 := by
    simp only [bind_ok, lft_ok, ofO_some, q_var, q_lit, q_glo, q_bin, q_cmp, q_idx, q_bif, q_call, q_nil, q_cons, q_val, q_tand, q_tor, q_tnot, q_ifs, q_set, q_snil, q_scons, q_gn, q_not, q_and', q_tup, q_lst, q_isi, q_ife, q_slc, q_onon, q_osom, q_yes, q_iex, q_ir1, q_att, q_ret, rd, rds, pures, s1, s2, s3, s4, s5, c5, Option.bind_some, Option.map_some, List.getElem?_cons_zero, List.getElem?_cons_succ, five]
  exact set_ok (bin_ok (bin_ok rfl ec ba1) e5 ba2)
end
theorem law_ok (ns : List Int) (hl : ns.length ≤ 63) (v : W) (hv : v = .scr (ns.map P.int) ∨ v = .p (.lst (ns.map P.int))) : ∃ S', runF (calls T 688) m_law [v] [] = .ok (.p (.bl true)) S' := by
  obtain ⟨S1, h1, e1⟩ := law_pool 687 (ns := ns) (v := v) hv
  have hL : startL ⟨1, 6, b_law, false⟩ [v] = [some v, none, none, none, none, none] := rfl
  rw [mb_law]
  suffices h : ∃ S', trimS 0 S' = some [] ∧ exss (calls T 688) b_law [some v, none, none, none, none, none] [] = some (.ret (.p (.bl true)), S') by
    obtain ⟨S', ht, ex⟩ := h
    exact ⟨[], (run_ret (S := []) rfl (hL ▸ ex) (T := []) ht).trans rfl⟩
  -- the texts that are written
  obtain ⟨m23, q23⟩ : ∃ m, lits (.cons (.lit (.str "")) (.cons (.lit (.str " ")) (.cons (.lit (.str "[")) (.cons (.lit (.str "]")) (.cons (.lit (.str "[]")) (.cons (.lit (.str "[ ]")) (.cons (.lit (.str "[1 ]")) (.cons (.lit (.str "[ 1]")) (.cons (.lit (.str "[1  2]")) (.cons (.lit (.str "[1 2")) (.cons (.lit (.str "1 2")) (.cons (.lit (.str "[1] ")) (.cons (.lit (.str " [1]")) (.cons (.lit (.str "[1][2]")) (.cons (.lit (.str "[[]")) (.cons (.lit (.str "[]]")) (.cons (.lit (.str "-")) (.cons (.lit (.str "-0")) (.cons (.lit (.str "00")) (.cons (.lit (.str "01")) (.cons (.lit (.str "-01")) (.cons (.lit (.str "1000000")) (.cons (.lit (.str "-999999")) .nil))))))))))))))))))))))) = some m ∧ Tr 23 m := ⟨_, rfl, tr_of (by decide) (by decide +kernel)⟩
  obtain ⟨m14, q14⟩ : ∃ m, lits (.cons (.lit (.str "a")) (.cons (.lit (.str "A")) (.cons (.lit (.str "a1")) (.cons (.lit (.str "1a")) (.cons (.lit (.str "[a b]")) (.cons (.lit (.str "[a-1]")) (.cons (.lit (.str "[1,2]")) (.cons (.lit (.str "--1")) (.cons (.lit (.str "+1")) (.cons (.lit (.str "[1[2]]")) (.cons (.lit (.str "[[1]2]")) (.cons (.lit (.str "[[1]a]")) (.cons (.lit (.str "a_")) (.cons (.lit (.str "[a1a 1]")) .nil)))))))))))))) = some m ∧ Tr 14 m := ⟨_, rfl, tr_of (by decide) (by decide +kernel)⟩
  obtain ⟨q23, t23⟩ := q23
  obtain ⟨q14, t14⟩ := q14
  have t4 : Tr 4 l4 := l4_tr
  have g1 := t23.1
  have g2 := t14.1
  have b1 : bop .add (.lst m23) (.lst m14) = some (.lst (m23 ++ m14)) := bop_lst (by omega)
  have b2 : bop .add (.lst (m23 ++ m14)) (.lst l4) = some (.lst (m23 ++ m14 ++ l4)) := bop_lst (by rw [List.length_append]; have : l4.length = 4 := rfl; omega)
  unfold b_law
  rw [x_nx (L' := [some v, some (.ref 0), none, none, none, none]) (S' := S1) (by simp only [bind_ok, lft_ok, ofO_some, q_var, q_lit, q_glo, q_bin, q_cmp, q_idx, q_bif, q_call, q_nil, q_cons, q_val, q_tand, q_tor, q_tnot, q_ifs, q_set, q_snil, q_scons, q_gn, q_not, q_and', q_tup, q_lst, q_isi, q_ife, q_slc, q_onon, q_osom, q_yes, q_iex, q_ir1, q_att, q_ret, rd, rds, pures, e1, Option.bind_some, Option.map_some, List.getElem?_cons_zero, List.set_cons_zero, List.set_cons_succ]),
    x_nx (L' := [some v, some (.ref 0), some (.p (.lst m23)), none, none, none]) (S' := S1) (set_ok (lits_lst _ _ _ q23 (by omega))),
    x_nx (L' := [some v, some (.ref 0), some (.p (.lst (m23 ++ m14))), none, none, none]) (S' := S1) (set_ok (bin_ok rfl (lits_lst _ _ _ q14 (by omega)) b1)),
    x_nx (L' := [some v, some (.ref 0), some (.p (.lst (m23 ++ m14 ++ l4))), none, none, none]) (S' := S1) (set_ok (bin_ok rfl (l4_ev _ _ _) b2))]
  obtain ⟨L2, S2, e2, l, x3, x4, x5, tl, h2, rfl⟩ := for_inv (tg := .name 3) (fun k L S => ∃ (l : List P) (x3 x4 x5 : Option W), Tr (41 + 9 * k) l ∧ Pool ns S ∧ L = [some v, some (.ref 0), some (.p (.lst l)), x3, x4, x5]) (rangeP 0 (6 : Int).toNat) 0 [some v, some (.ref 0), some (.p (.lst (m23 ++ m14 ++ l4))), none, none, none] S1
    (fun j x L S hx hI => by
      obtain ⟨l, x3, x4, x5, tl, hS, rfl⟩ := hI
      have hj : j < 6 := by
        have := (List.getElem?_eq_some_iff.mp hx).1
        rwa [range_len] at this
      obtain ⟨l', S', z, tl', hS', ex⟩ := law_turn (v := v) (k := some (.p x)) (x4 := x4) (x5 := x5) tl (by omega) hS
      exact ⟨_, _, S', rfl, ex, l', some (.p x), some (.p (.str z)), x5, by rw [Nat.zero_add] at *; exact tl', hS', rfl⟩)
    ⟨_, none, none, none, (t23.app t14).app t4, h1, rfl⟩
  have r6 : ∀ S, evI (calls T 688) (.r1 (.lit (.int (6)))) [some v, some (.ref 0), some (.p (.lst (m23 ++ m14 ++ l4))), none, none, none] S = .ok (rangeP 0 (6 : Int).toNat) S := fun S => ev_r1 (q_lit _ _ _ _) (by decide +kernel)
  refine ⟨S2, ?_, ?_⟩
  · obtain ⟨_, _, _, _, _, rfl⟩ := h2
    rfl
  refine (x_nx ((q_for _ _ _ _ _ _).trans (by rw [r6, lft_ok]; exact e2))).trans ?_
  -- each text
  obtain ⟨i, n, c, s, _, rfl⟩ := h2
  obtain ⟨L3, S3, e3, rfl, y4, rfl⟩ := for_inv (tg := .name 4) (b := exss (calls T 688) (.cons (.ifs (.not (.val (.call "_law_same" (.cons (.call "_law_told" (.cons (.var 4) .nil)) (.cons (.call "_law_value_of" (.cons (.var 4) .nil)) .nil))))) (.cons (.ret (.lit (.bl false))) .nil) .nil) .nil))
    (fun k L S => S = pool ns i n c s ∧ ∃ y4 : Option W, L = [some v, some (.ref 0), some (.p (.lst l)), x3, y4, x5]) l 0 [some v, some (.ref 0), some (.p (.lst l)), x3, x4, x5] (pool ns i n c s)
    (fun j x L S hx hI => by
      obtain ⟨rfl, y4, rfl⟩ := hI
      obtain ⟨z, rfl, hz⟩ := tl.2 x (List.mem_of_getElem? hx)
      have et := told (q := [.lst (ns.map P.int), .int i, .int n, .int c, .int s]) (z := z) 41 (by omega)
      have ev_ := value_of (q := [.lst (ns.map P.int), .int i, .int n, .int c, .int s]) (z := z) 365 (by omega)
      have es := same (S := pool ns i n c s) rfl (sm_readV (z := z) (by omega)) 366
      have et : (calls T 688).fn "_law_told" [.p (.str z)] (pool ns i n c s) = .ok (.p (oneV (readV z))) (pool ns i n c s) := et
      have ev_ : (calls T 688).fn "_law_value_of" [.p (.str z)] (pool ns i n c s) = .ok (.p (oneV (readV z))) (pool ns i n c s) := ev_
      have es : (calls T 688).fn "_law_same" [.p (oneV (readV z)), .p (oneV (readV z))] (pool ns i n c s) = .ok (.p (.bl true)) (pool ns i n c s) := es
      refine ⟨_, [some v, some (.ref 0), some (.p (.lst l)), x3, some (.p (.str z)), x5], pool ns i n c s, rfl, ?_, rfl, _, rfl⟩
      refine (x_nx (x_ifnx (S' := pool ns i n c s) ?_)).trans (q_snil _ _ _)
      simp only [bind_ok, lft_ok, ofO_some, q_var, q_lit, q_glo, q_bin, q_cmp, q_idx, q_bif, q_call, q_nil, q_cons, q_val, q_tand, q_tor, q_tnot, q_ifs, q_set, q_snil, q_scons, q_gn, q_not, q_and', q_tup, q_lst, q_isi, q_ife, q_slc, q_onon, q_osom, q_yes, q_iex, q_ir1, q_att, q_ret, rd, rds, pures, et, ev_, es, truth, Option.bind_some, Option.map_some, List.getElem?_cons_zero, List.getElem?_cons_succ, List.set_cons_zero, List.set_cons_succ, Bool.not_true])
    ⟨rfl, x4, rfl⟩
  have w4 : evI (calls T 688) (.ex (.var 2)) [some v, some (.ref 0), some (.p (.lst l)), x3, x4, x5] (pool ns i n c s) = .ok l (pool ns i n c s) := rfl
  refine (x_nx ((q_for _ _ _ _ _ _).trans (by rw [w4, lft_ok]; exact e3))).trans ?_
  exact x_ret rfl
end K51

set_option Elab.async false
set_option linter.all false
set_option maxRecDepth 100000
set_option maxHeartbeats 0
namespace K51
open MP PySem PySem.Spec PyProof.Rows L2 C8
theorem ends {w : World} {K : PySem.W.Frag} {h : Heap} {mg : Str → Option Value} {f : Addr} (X : K.In h) (Gm : h.Ns mainGlobals mg) (hfa : mg ("law" : Str) = some (.ref f)) (c : He.SaysD fa dfn K) :
    ∃ fd : FuncData, (∀ (s : Shared) (v : Value), BindsTo s fd ⟨[v], []⟩ [("script", v)]) ∧
      (∀ (H : Hp) (a : Addr) (ns : List Int), ns.length ≤ 63 → (∀ z ∈ ns, Builtin.Int.intBits z ≤ 1048576) → SqL K H a (ns.map V.int) → spF (gd K) (runF (calls T 688) m_law) [.ref a] H (fun v _ => v = .bl true) fun _ _ _ => False) ∧
      ∀ base : Heap, K.In base → base.Ns mainGlobals mg → FnOk PySem.Challenge.rw_everyregular_k51_faulty_texts_of_values.prog w K mg base (L2.CX PySem.Challenge.rw_everyregular_k51_faulty_texts_of_values.prog w) 231 f fd ["script"] (spF (gd K) (runF (calls T 688) m_law)) := by
  obtain ⟨fd, F⟩ := c.def_ 20 (d := d_law) rfl
  have e := hfa.symm.trans (He.glo_ok X Gm (c.fact 50 (f := .glo "law") rfl))
  cases e
  have d : DefOk kt K (He.ga K "law") fd "law" "law" m_law ["script"] := defOk_of (ps := ["script"]) (N := n_law) (lv := l_law) (live := false) F (by decide +kernel) (by decide +kernel) fun _ _ _ _ _ _ us hl => match us, hl with | [_], _ => rfl
  obtain ⟨h1, h2⟩ := law_end (Pg := PySem.Challenge.rw_everyregular_k51_faulty_texts_of_values.prog) (w := w) (gr X Gm c) d (m := 63) fun ns hl _ v hv => law_ok ns hl v hv
  exact ⟨fd, fun s v => FunD.bindsA (ps := ["script"]) F (fun _ _ _ _ _ _ us hl => match us, hl with | [_], _ => rfl) s [v] rfl, h1, h2⟩
end K51
open PySem PySem.W PySem.Calls PyProof.Rows
theorem PySem.Challenge.cw_everyregular_k51_faulty_texts_of_values_holds : PySem.Challenge.rw_everyregular_k51_faulty_texts_of_values.Holds := by
  w_on; o_law
  refine HandSHeadRun.head_any (r := OpenLaw.row PySem.Challenge.rw_everyregular_k51_faulty_texts_of_values) (q := view (OpenLaw.row PySem.Challenge.rw_everyregular_k51_faulty_texts_of_values).prog [31]) (H := K51.hk) (ob := K51.obs) (M := 4000) (loose := K51.names) (d := HandSHeadRun.topDef (OpenLaw.row PySem.Challenge.rw_everyregular_k51_faulty_texts_of_values).prog 31) (kwd := []) K51.obs_eq
    (by kernel_rfl) (fun s => by kernel_rfl) K51.run (by kernel_rfl) (by kernel_rfl) (by kernel_rfl) (by rfl) (by first | assumption | decide +kernel) (by decide +kernel) ⟨rfl, rfl, rfl, rfl, rfl, by decide +kernel⟩ ?hw ?hc
  case hw => w_witness2
  case hc =>
    refine LamX.walk_ofTsE (l := PySem.Challenge.rw_everyregular_k51_faulty_texts_of_values) (n := 63) (k := 231) (x := "script") (CX := fun w => L2.CX PySem.Challenge.rw_everyregular_k51_faulty_texts_of_values.prog w) rfl (by decide) (by kernel_rfl) MP.room231 ?F (fun _ _ _ _ _ z => ?_)
    · intro w mg fa h Y G hmg0
      obtain ⟨K, KX, c⟩ := Y
      have hmg : mg ("law" : PySem.Str) = some (.ref fa) := by
        have e : (HandSHeadRun.topDef (OpenLaw.row PySem.Challenge.rw_everyregular_k51_faulty_texts_of_values).prog 31).name = ("law" : PySem.Str) := by kernel_rfl
        rw [← e]
        exact hmg0
      obtain ⟨fd, hb, hs, hF⟩ := K51.ends (w := w) KX G hmg c
      exact ⟨K, KX, fd, [], _, fun p m => absurd m (by simp), fun p m => absurd m (by simp), fun p m => absurd m (by simp), hb, fun H a ns hl hz _ hS => hs H a ns hl hz hS, fun base k g _ => hF base k g⟩
    · obtain ⟨_, _, _, _, _, _, _, _, _, _, _, _, hE⟩ := z
      exact hE

